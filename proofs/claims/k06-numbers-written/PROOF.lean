import PyProof.Rows.All
import Wide.All
import OpenK.AllK
import Wide.FinOn
import PyProof.EqAt
import PyProof.EqKinds
import PyProof.TupleCall
import HandS.ForMost
import HandS.Exc
import HandS.ExcOwn
import HandS.TryOnly
import HandS.TryMany
import HandS.Walk
import HandS.Defaults
import HandS.WordsExc
import HandS.HeadHook1
import HandS.HeadHook2
import HandS.Head0
import HandS.Head1
import HandS.Head2
import HandS.HeadEnd
import HandS.WideBits
import HandS.IsInst
import HandS.SortInts
import HandS.ExcIs
import HandS.Conv
import HandS.Rev
import HandS.More
import KE.KTryMore
import KE.KDictSum
import KE.GoesRaise
import KE.OsArith
import KE.KIntText
import PySem.Challenge.RW_earthward_k06_numbers_written
set_option Elab.async false
set_option linter.all false
set_option maxRecDepth 100000
set_option maxHeartbeats 4000000
/-! RL1: data, results, representation, states. -/
namespace RL
open PySem L2

/-- plain data of the mirrors -/
inductive D where
  | non | bl (b : Bool) | int (i : Int) | str (x : Str)
  | lst (l : List D) | tup (l : List D) | dic (l : List (Key × D)) | scr (ns : List Int)
  | obj (c : Str) (fs : List (Str × D))

instance : Inhabited D := ⟨.non⟩

/-- what a mirror tells: a value, a refusal by a class's name, or nothing (stuck: no claim) -/
inductive Res (α : Type) where
  | ok (a : α) | exc (k : Str) | stuck

namespace Res
variable {α β : Type}
def bind (m : Res α) (f : α → Res β) : Res β := match m with
  | .ok a => f a
  | .exc k => .exc k
  | .stuck => .stuck
def wp (m : Res α) (P : α → Prop) (R : Str → Prop) : Prop := match m with
  | .ok a => P a
  | .exc k => R k
  | .stuck => False
def ofOpt : Option α → Res α
  | some a => .ok a
  | none => .stuck
@[simp] theorem ok_bind (a : α) (f : α → Res β) : (Res.ok a).bind f = f a := id rfl
@[simp] theorem exc_bind (k : Str) (f : α → Res β) : (Res.exc k : Res α).bind f = .exc k := id rfl
@[simp] theorem stuck_bind (f : α → Res β) : (Res.stuck : Res α).bind f = .stuck := id rfl
theorem wp_bind {m : Res α} {f : α → Res β} {P : β → Prop} {R : Str → Prop} (h : (m.bind f).wp P R) : m.wp (fun a => (f a).wp P R) R := by
  cases m <;> exact h
theorem wp_mono {m : Res α} {P P' : α → Prop} {R R' : Str → Prop} (h : m.wp P R) (hp : ∀ a, P a → P' a) (hr : ∀ k, R k → R' k) : m.wp P' R' := by
  cases m with
  | ok a => exact hp a h
  | exc k => exact hr k h
  | stuck => exact h
end Res

/-! ### representation -/
section
variable (K : PySem.W.Frag) (S : Hp)
mutual
def rep : D → V → Prop
  | .non, v => v = .non
  | .bl b, v => v = .bl b
  | .int i, v => v = .int i
  | .str x, v => v = .str x
  | .lst l, v => ∃ p vs, v = .ref p ∧ S p = some (.lst vs) ∧ reps l vs
  | .tup l, v => ∃ p vs, v = .ref p ∧ SqT K S p vs ∧ reps l vs
  | .dic l, v => ∃ p kvs, v = .ref p ∧ S p = some (.dK kvs) ∧ repk l kvs
  | .scr ns, v => ∃ p, v = .ref p ∧ SqL K S p (ns.map V.int)
  | .obj c fs, v => ∃ p dx vs, v = .ref p ∧ S p = some (.ins (He.ga K c) dx vs) ∧ repf fs vs
def reps : List D → List V → Prop
  | [], vs => vs = []
  | d :: l, vs => ∃ v r, vs = v :: r ∧ rep d v ∧ reps l r
def repk : List (Key × D) → List (Key × V) → Prop
  | [], vs => vs = []
  | (k, d) :: l, vs => ∃ v r, vs = (k, v) :: r ∧ rep d v ∧ repk l r
def repf : List (Str × D) → List (Str × V) → Prop
  | [], vs => vs = []
  | (k, d) :: l, vs => ∃ v r, vs = (k, v) :: r ∧ rep d v ∧ repf l r
end
end

/-- a part of the heap -/
def Sub (S H : Hp) : Prop := ∀ a o, S a = some o → H a = some o
theorem Sub.refl (S : Hp) : Sub S S := fun _ _ h => h
theorem Sub.trans {A B C : Hp} (h : Sub A B) (h' : Sub B C) : Sub A C := fun a o e => h' a o (h a o e)
theorem Sub.rd {S H : Hp} (h : Sub S H) {a : Addr} {u : HO} (r : Rd S a u) : Rd H a u := by
  rcases r with r | ⟨o, r⟩
  · exact .inl (h _ _ r)
  · exact .inr ⟨o, h _ _ r⟩
theorem Sub.sqL {K : PySem.W.Frag} {S H : Hp} (h : Sub S H) {a : Addr} {xs : List V} (r : SqL K S a xs) : SqL K H a xs := by
  rcases r with r | r
  · exact .inl (h.rd r)
  · exact .inr r
theorem Sub.sqT {K : PySem.W.Frag} {S H : Hp} (h : Sub S H) {a : Addr} {xs : List V} (r : SqT K S a xs) : SqT K H a xs := by
  rcases r with r | r
  · exact .inl (h.rd r)
  · exact .inr r
theorem Sub.upd {S H : Hp} (h : Sub S H) {a : Addr} {o : HO} (ha : S a = none) : Sub S (L2.upd H a o) := fun b u e => by
  rw [upd_ne (ne_of_none e ha)]
  exact h b u e
theorem Sub.ext (S : Hp) {a : Addr} {o : HO} (ha : S a = none) : Sub S (L2.upd S a o) := (Sub.refl S).upd ha
theorem Sub.both {S H : Hp} (h : Sub S H) (a : Addr) (o : HO) : Sub (L2.upd S a o) (L2.upd H a o) := fun b u e => by
  by_cases hb : b = a
  · subst hb; rw [upd_same] at e ⊢; exact e
  · rw [upd_ne hb] at e ⊢; exact h b u e
theorem Sub.none {S H : Hp} (h : Sub S H) {a : Addr} (ha : H a = none) : S a = none := by
  cases q : S a with
  | none => rfl
  | some o => rw [h a o q] at ha; cases ha

section
variable {K : PySem.W.Frag} {S H : Hp}
mutual
theorem rep_mono (h : Sub S H) : ∀ (d : D) (v : V), rep K S d v → rep K H d v
  | .non, _, r => r
  | .bl _, _, r => r
  | .int _, _, r => r
  | .str _, _, r => r
  | .lst l, v, r => by
    unfold rep at r ⊢
    obtain ⟨p, vs, e, q, rs⟩ := r
    exact ⟨p, vs, e, h _ _ q, reps_mono h l vs rs⟩
  | .tup l, v, r => by
    unfold rep at r ⊢
    obtain ⟨p, vs, e, q, rs⟩ := r
    exact ⟨p, vs, e, h.sqT q, reps_mono h l vs rs⟩
  | .dic l, v, r => by
    unfold rep at r ⊢
    obtain ⟨p, vs, e, q, rs⟩ := r
    exact ⟨p, vs, e, h _ _ q, repk_mono h l vs rs⟩
  | .scr ns, v, r => by
    unfold rep at r ⊢
    obtain ⟨p, e, q⟩ := r
    exact ⟨p, e, h.sqL q⟩
  | .obj c fs, v, r => by
    unfold rep at r ⊢
    obtain ⟨p, dx, vs, e, q, rs⟩ := r
    exact ⟨p, dx, vs, e, h _ _ q, repf_mono h fs vs rs⟩
theorem reps_mono (h : Sub S H) : ∀ (l : List D) (vs : List V), reps K S l vs → reps K H l vs
  | [], _, r => by unfold reps at r ⊢; exact r
  | d :: l, vs, r => by
    unfold reps at r ⊢
    obtain ⟨v, t, e, q, rs⟩ := r
    exact ⟨v, t, e, rep_mono h d v q, reps_mono h l t rs⟩
theorem repk_mono (h : Sub S H) : ∀ (l : List (Key × D)) (vs : List (Key × V)), repk K S l vs → repk K H l vs
  | [], _, r => by unfold repk at r ⊢; exact r
  | (k, d) :: l, vs, r => by
    unfold repk at r ⊢
    obtain ⟨v, t, e, q, rs⟩ := r
    exact ⟨v, t, e, rep_mono h d v q, repk_mono h l t rs⟩
theorem repf_mono (h : Sub S H) : ∀ (l : List (Str × D)) (vs : List (Str × V)), repf K S l vs → repf K H l vs
  | [], _, r => by unfold repf at r ⊢; exact r
  | (k, d) :: l, vs, r => by
    unfold repf at r ⊢
    obtain ⟨v, t, e, q, rs⟩ := r
    exact ⟨v, t, e, rep_mono h d v q, repf_mono h l t rs⟩
end
theorem reps_len : ∀ {l : List D} {vs : List V}, reps K S l vs → vs.length = l.length
  | [], vs, r => by unfold reps at r; subst r; rfl
  | d :: l, vs, r => by
    unfold reps at r
    obtain ⟨v, t, rfl, _, rs⟩ := r
    simp [reps_len rs]
theorem reps_get : ∀ {l : List D} {vs : List V} {i : Nat} {d : D}, reps K S l vs → l[i]? = some d → ∃ v, vs[i]? = some v ∧ rep K S d v
  | [], _, _, _, _, e => by simp at e
  | d :: l, vs, 0, d', r, e => by
    unfold reps at r
    obtain ⟨v, t, rfl, q, _⟩ := r
    simp at e; subst e
    exact ⟨v, rfl, q⟩
  | d :: l, vs, i + 1, d', r, e => by
    unfold reps at r
    obtain ⟨v, t, rfl, _, rs⟩ := r
    obtain ⟨v', h1, h2⟩ := reps_get (i := i) rs (by simpa using e)
    exact ⟨v', by simpa using h1, h2⟩
theorem reps_getV : ∀ {l : List D} {vs : List V} {i : Nat} {v : V}, reps K S l vs → vs[i]? = some v → ∃ d, l[i]? = some d ∧ rep K S d v
  | [], vs, i, v, r, e => by unfold reps at r; subst r; simp at e
  | d :: l, vs, 0, v, r, e => by
    unfold reps at r
    obtain ⟨v', t, rfl, q, _⟩ := r
    simp at e; subst e
    exact ⟨d, rfl, q⟩
  | d :: l, vs, i + 1, v, r, e => by
    unfold reps at r
    obtain ⟨v', t, rfl, _, rs⟩ := r
    obtain ⟨d', h1, h2⟩ := reps_getV (i := i) rs (by simpa using e)
    exact ⟨d', by simpa using h1, h2⟩
theorem reps_app : ∀ {l l' : List D} {vs vs' : List V}, reps K S l vs → reps K S l' vs' → reps K S (l ++ l') (vs ++ vs')
  | [], l', vs, vs', r, r' => by unfold reps at r; subst r; exact r'
  | d :: l, l', vs, vs', r, r' => by
    unfold reps at r
    obtain ⟨v, t, rfl, q, rs⟩ := r
    show reps K S (d :: (l ++ l')) (v :: (t ++ vs'))
    unfold reps
    exact ⟨v, _, rfl, q, reps_app rs r'⟩
theorem reps_nil : reps K S [] [] := by unfold reps; rfl
theorem reps_cons {d : D} {v : V} {l : List D} {vs : List V} (h : rep K S d v) (r : reps K S l vs) : reps K S (d :: l) (v :: vs) := by
  unfold reps
  exact ⟨v, vs, rfl, h, r⟩
theorem reps_one {d : D} {v : V} (h : rep K S d v) : reps K S [d] [v] := reps_cons h reps_nil
theorem reps_take : ∀ {l : List D} {vs : List V} (n : Nat), reps K S l vs → reps K S (l.take n) (vs.take n)
  | _, _, 0, _ => reps_nil
  | [], vs, n + 1, r => by unfold reps at r; subst r; exact reps_nil
  | d :: l, vs, n + 1, r => by
    unfold reps at r
    obtain ⟨v, t, rfl, q, rs⟩ := r
    exact reps_cons q (reps_take n rs)
theorem reps_drop : ∀ {l : List D} {vs : List V} (n : Nat), reps K S l vs → reps K S (l.drop n) (vs.drop n)
  | _, _, 0, r => r
  | [], vs, n + 1, r => by unfold reps at r; subst r; exact reps_nil
  | d :: l, vs, n + 1, r => by
    unfold reps at r
    obtain ⟨v, t, rfl, q, rs⟩ := r
    exact reps_drop n rs
theorem reps_set : ∀ {l : List D} {vs : List V} (i : Nat) {d : D} {v : V}, reps K S l vs → rep K S d v → reps K S (l.set i d) (vs.set i v)
  | [], vs, i, d, v, r, _ => by unfold reps at r; subst r; exact reps_nil
  | e :: l, vs, 0, d, v, r, q => by
    unfold reps at r
    obtain ⟨v', t, rfl, _, rs⟩ := r
    exact reps_cons q rs
  | e :: l, vs, i + 1, d, v, r, q => by
    unfold reps at r
    obtain ⟨v', t, rfl, q', rs⟩ := r
    exact reps_cons q' (reps_set i rs q)
theorem reps_rev {l : List D} {vs : List V} (r : reps K S l vs) : reps K S l.reverse vs.reverse := by
  induction l generalizing vs with
  | nil => unfold reps at r; subst r; exact reps_nil
  | cons d l ih =>
    unfold reps at r
    obtain ⟨v, t, rfl, q, rs⟩ := r
    rw [List.reverse_cons, List.reverse_cons]
    exact reps_app (ih rs) (reps_one q)
theorem reps_ints : ∀ {ns : List Int}, reps K S (ns.map D.int) (ns.map V.int)
  | [] => reps_nil
  | n :: r => reps_cons (by unfold rep; rfl) reps_ints
theorem repf_lookup : ∀ {l : List (Str × D)} {vs : List (Str × V)} {f : Str}, repf K S l vs → match l.lookup f with
    | some d => ∃ v, vs.lookup f = some v ∧ rep K S d v
    | none => vs.lookup f = none
  | [], vs, f, r => by unfold repf at r; subst r; rfl
  | (k, d) :: l, vs, f, r => by
    unfold repf at r
    obtain ⟨v, t, rfl, q, rs⟩ := r
    rw [List.lookup_cons, List.lookup_cons]
    cases f == k with
    | true => exact ⟨v, rfl, q⟩
    | false => exact repf_lookup rs
end

/-! ### states -/
/-- a slot: nothing known; a value; a cell of one's own -/
inductive Sl where
  | un | is (d : D) | at (p : Addr) | tu (ss : List (D ⊕ Addr))
/-- a cell of one's own -/
inductive Ce where
  | lst (l : List D) | dic (l : List (Key × D)) | ins (c : Str) (fs : List (Str × Sl)) | fz (o : Obj) (kvs : List (Key × V)) (l : List (Key × D))
abbrev Ga := List (Addr × Ce)
/-- where the cells lie whose place is not known ahead -/
abbrev Al := (Nat → Addr) × (Nat → Addr)
/-- an address that is not in the list -/
def frO (O : List Addr) : Addr := O.foldr (fun a b => a + b + 1) 0
theorem frO_lt : ∀ (O : List Addr), ∀ a ∈ O, a < frO O
  | b :: O, a, h => by
    show a < b + frO O + 1
    rcases List.mem_cons.mp h with e | h
    · subst e; exact Nat.lt_succ_of_le (Nat.le_add_right ..)
    · exact Nat.lt_of_lt_of_le (frO_lt O a h) (Nat.le_trans (Nat.le_add_left _ b) (Nat.le_succ _))
def alN (O : List Addr) : List Addr → Nat → Addr
  | [], _ => frO O
  | q :: _, 0 => q
  | _ :: r, n + 1 => alN O r n
/-- the first ones are new since the entry -/
def AOk (O : List Addr) (α : Al) : Prop := ∀ k, α.1 k ∉ O
theorem alN_ok {O : List Addr} : ∀ {l : List Addr}, (∀ q ∈ l, q ∉ O) → ∀ k, alN O l k ∉ O
  | [], _, _ => fun h => Nat.lt_irrefl _ (frO_lt O _ h)
  | q :: _, h, 0 => h q (List.mem_cons_self ..)
  | _ :: r, h, n + 1 => alN_ok (l := r) (fun q hq => h q (List.mem_cons_of_mem _ hq)) n
theorem aok {O : List Addr} {l : List Addr} {m : Nat → Addr} (h : ∀ q ∈ l, q ∉ O) : AOk O (alN O l, m) := alN_ok h
theorem an_nil {O : List Addr} : ∀ q ∈ ([] : List Addr), q ∉ O := fun _ h => nomatch h
theorem an_cons {O : List Addr} {q : Addr} {l : List Addr} (h : q ∉ O) (r : ∀ q ∈ l, q ∉ O) : ∀ q' ∈ q :: l, q' ∉ O := fun q' h' => by
  rcases List.mem_cons.mp h' with e | h'
  · subst e; exact h
  · exact r q' h'
def al0 : Nat → Addr := fun _ => 0
/-- the entry of a def: the heap, its shared part, the cells that were handed in -/
structure En where
  H0 : Hp
  S0 : Hp
  O : List Addr
section
variable (K : PySem.W.Frag)
/-- a tuple's parts: values, or cells -/
def tuOk (S : Hp) : List (D ⊕ Addr) → List V → Prop
  | [], vs => vs = []
  | .inl d :: r, vs => ∃ v t, vs = v :: t ∧ rep K S d v ∧ tuOk S r t
  | .inr p :: r, vs => ∃ t, vs = .ref p :: t ∧ tuOk S r t
def slOk (S : Hp) : Sl → Option V → Prop
  | .un, _ => True
  | .is d, o => ∃ v, o = some v ∧ rep K S d v
  | .at p, o => o = some (.ref p)
  | .tu ss, o => ∃ q us, o = some (.ref q) ∧ SqT K S q us ∧ tuOk K S ss us
def slsOk (S : Hp) : List Sl → St → Prop
  | [], σ => σ = []
  | s :: r, σ => ∃ o t, σ = o :: t ∧ slOk K S s o ∧ slsOk S r t
/-- the fields of an instance of one's own -/
def flsOk (S : Hp) : List (Str × Sl) → List (Str × V) → Prop
  | [], vs => vs = []
  | (f, s) :: r, vs => ∃ v t, vs = (f, v) :: t ∧ slOk K S s (some v) ∧ flsOk S r t
def ceOk (S : Hp) : Ce → HO → Prop
  | .lst l, o => ∃ vs, o = .lst vs ∧ reps K S l vs
  | .dic l, o => ∃ vs, o = .dK vs ∧ repk K S l vs
  | .ins c fs, o => ∃ dx vs, o = .ins (He.ga K c) dx vs ∧ flsOk K S fs vs
  | .fz od kvs l, o => o = .frz od (.dK kvs) ∧ repk K S l kvs
/-- what holds of the heaps whatever the slots -/
structure HpOk (en : En) (S H : Hp) : Prop where
  sub : Sub S H
  keep : ∀ a o, a ∉ en.O → en.H0 a = some o → H a = some o
  there : ∀ a o, en.H0 a = some o → ∃ o', H a = some o'
  oh : ∀ p ∈ en.O, ∃ u, en.H0 p = some u
  s0 : Sub en.S0 S
  fresh : ∀ a o, S a = some o → (∃ u, en.S0 a = some u) ∨ en.H0 a = none
structure GaOk (en : En) (S H : Hp) (Γ : Ga) : Prop where
  ce : ∀ p c, (p, c) ∈ Γ → S p = none ∧ (p ∈ en.O ∨ en.H0 p = none) ∧ ∃ o, H p = some o ∧ ceOk K S c o
  nd : (Γ.map (·.1)).Nodup
structure Hg (en : En) (S H : Hp) (Γ : Ga) : Prop where
  hp : HpOk en S H
  ga : GaOk K en S H Γ
structure StOk (en : En) (S H : Hp) (σ : St) (ρ : List Sl) (Γ : Ga) : Prop where
  hg : Hg K en S H Γ
  sl : slsOk K S ρ σ
end
section
variable {K : PySem.W.Frag} {en : En} {S S' H H' : Hp} {σ : St} {ρ ρ' : List Sl} {Γ Γ' : Ga}
theorem tuOk.mono (h : Sub S S') : ∀ {ss : List (D ⊕ Addr)} {us : List V}, tuOk K S ss us → tuOk K S' ss us
  | [], _, r => r
  | .inl d :: l, us, r => by
    obtain ⟨v, t, e, q, rs⟩ := r
    exact ⟨v, t, e, rep_mono h d v q, tuOk.mono h rs⟩
  | .inr p :: l, us, r => by
    obtain ⟨t, e, rs⟩ := r
    exact ⟨t, e, tuOk.mono h rs⟩
theorem slOk.mono (h : Sub S S') {s : Sl} {o : Option V} (r : slOk K S s o) : slOk K S' s o := by
  cases s with
  | un => trivial
  | is d => obtain ⟨v, e, q⟩ := r; exact ⟨v, e, rep_mono h d v q⟩
  | «at» p => exact r
  | tu ss => obtain ⟨q, us, e, h1, h2⟩ := r; exact ⟨q, us, e, h.sqT h1, h2.mono h⟩
theorem slsOk.mono (h : Sub S S') : ∀ {ρ : List Sl} {σ : St}, slsOk K S ρ σ → slsOk K S' ρ σ
  | [], _, r => r
  | s :: l, σ, r => by
    obtain ⟨o, t, e, q, rs⟩ := r
    exact ⟨o, t, e, q.mono h, slsOk.mono h rs⟩
theorem slsOk.get : ∀ {ρ : List Sl} {σ : St} {i : Nat} {s : Sl}, slsOk K S ρ σ → ρ[i]? = some s → ∃ o, σ[i]? = some o ∧ slOk K S s o
  | [], _, _, _, _, e => by simp at e
  | s :: l, σ, 0, s', r, e => by
    obtain ⟨o, t, rfl, q, _⟩ := r
    simp at e; subst e
    exact ⟨o, rfl, q⟩
  | s :: l, σ, i + 1, s', r, e => by
    obtain ⟨o, t, rfl, _, rs⟩ := r
    obtain ⟨o', h1, h2⟩ := slsOk.get (i := i) rs (by simpa using e)
    exact ⟨o', by simpa using h1, h2⟩
theorem slsOk.set : ∀ {ρ : List Sl} {σ : St} (i : Nat) {s : Sl} {o : Option V}, slsOk K S ρ σ → slOk K S s o → slsOk K S (ρ.set i s) (σ.set i o)
  | [], σ, _, _, _, r, _ => by
    have e : σ = [] := r
    subst e
    exact (rfl : ([] : St) = [])
  | s :: l, σ, 0, s', o', r, q => by
    obtain ⟨o, t, rfl, _, rs⟩ := r
    exact ⟨o', t, rfl, q, rs⟩
  | s :: l, σ, i + 1, s', o', r, q => by
    obtain ⟨o, t, rfl, q', rs⟩ := r
    exact ⟨o, _, rfl, q', slsOk.set i rs q⟩
theorem slsOk.len : ∀ {ρ : List Sl} {σ : St}, slsOk K S ρ σ → σ.length = ρ.length
  | [], σ, r => by
    have e : σ = [] := r
    subst e; rfl
  | s :: l, σ, r => by
    obtain ⟨o, t, rfl, _, rs⟩ := r
    simp [rs.len]
theorem flsOk.mono (h : Sub S S') : ∀ {fs : List (Str × Sl)} {vs : List (Str × V)}, flsOk K S fs vs → flsOk K S' fs vs
  | [], _, r => r
  | (f, s) :: l, vs, r => by
    obtain ⟨v, t, e, q, rs⟩ := r
    exact ⟨v, t, e, q.mono h, flsOk.mono h rs⟩
theorem ceOk.mono (h : Sub S S') {c : Ce} {o : HO} (r : ceOk K S c o) : ceOk K S' c o := by
  cases c with
  | ins c fs => obtain ⟨dx, vs, e, q⟩ := r; exact ⟨dx, vs, e, q.mono h⟩
  | fz od kvs l => exact ⟨r.1, repk_mono h l _ r.2⟩
  | lst l => obtain ⟨vs, e, q⟩ := r; exact ⟨vs, e, reps_mono h l vs q⟩
  | dic l => obtain ⟨vs, e, q⟩ := r; exact ⟨vs, e, repk_mono h l vs q⟩

/-- the slots are known less -/
def Wk : List Sl → List Sl → Prop
  | [], ρ' => ρ' = []
  | s :: r, ρ' => ∃ s' r', ρ' = s' :: r' ∧ (s' = .un ∨ s = s') ∧ Wk r r'
theorem Wk.refl : ∀ ρ : List Sl, Wk ρ ρ
  | [] => rfl
  | s :: r => ⟨s, r, rfl, .inr rfl, Wk.refl r⟩
theorem Wk.nil : Wk [] [] := rfl
theorem Wk.same {s : Sl} {r r' : List Sl} (h : Wk r r') : Wk (s :: r) (s :: r') := ⟨s, r', rfl, .inr rfl, h⟩
theorem Wk.un {s : Sl} {r r' : List Sl} (h : Wk r r') : Wk (s :: r) (.un :: r') := ⟨.un, r', rfl, .inl rfl, h⟩
theorem slsOk.wk : ∀ {ρ ρ' : List Sl} {σ : St}, slsOk K S ρ σ → Wk ρ ρ' → slsOk K S ρ' σ
  | [], ρ', σ, r, w => by
    have e : ρ' = [] := w
    subst e; exact r
  | s :: l, ρ', σ, r, w => by
    obtain ⟨o, t, rfl, q, rs⟩ := r
    obtain ⟨s', r', rfl, h, w'⟩ := w
    refine ⟨o, t, rfl, ?_, rs.wk w'⟩
    rcases h with rfl | rfl
    · trivial
    · exact q
/-- fewer cells -/
def Fewer (Γ Γ' : Ga) : Prop := Γ'.Sublist Γ
theorem GaOk.fewer (g : GaOk K en S H Γ) (f : Fewer Γ Γ') : GaOk K en S H Γ' :=
  ⟨fun p c hm => g.ce p c (f.subset hm), (f.map (·.1)).nodup g.nd⟩
theorem StOk.weak (s : StOk K en S H σ ρ Γ) (w : Wk ρ ρ') (f : Fewer Γ Γ') : StOk K en S H σ ρ' Γ' := ⟨⟨s.hg.hp, s.hg.ga.fewer f⟩, s.sl.wk w⟩
theorem StOk.mk' (s : StOk K en S H σ ρ Γ) (h : Sub S S') (g : Hg K en S' H' Γ') : StOk K en S' H' σ ρ Γ' := ⟨g, s.sl.mono h⟩
theorem Hg.h0 (g : Hg K en S H Γ) {p : Addr} (h : H p = none) : en.H0 p = none := by
  cases q : en.H0 p with
  | none => rfl
  | some o =>
    obtain ⟨o', e⟩ := g.hp.there _ _ q
    rw [h] at e; cases e
theorem Hg.no (g : Hg K en S H Γ) {p : Addr} (h : H p = none) : p ∉ en.O := fun hm => by
  obtain ⟨u, e⟩ := g.hp.oh p hm
  rw [g.h0 h] at e; cases e
/-- a new object, shared from now on -/
theorem Hg.share (g : Hg K en S H Γ) {p : Addr} {o : HO} (hp : H p = none) : Hg K en (upd S p o) (upd H p o) Γ := by
  have sp : S p = none := g.hp.sub.none hp
  refine ⟨⟨g.hp.sub.both p o, fun a u na e => ?_, fun a u e => ?_, g.hp.oh, g.hp.s0.trans (Sub.ext S sp), fun a u e => ?_⟩, ⟨fun q c hm => ?_, g.ga.nd⟩⟩
  · have h := g.hp.keep a u na e
    rw [upd_ne (ne_of_none h hp)]; exact h
  · obtain ⟨u', h⟩ := g.hp.there a u e
    exact ⟨u', by rw [upd_ne (ne_of_none h hp)]; exact h⟩
  · by_cases ha : a = p
    · subst ha; exact .inr (g.h0 hp)
    · rw [upd_ne ha] at e; exact g.hp.fresh a u e
  · obtain ⟨h1, h2, u, h3, h4⟩ := g.ga.ce q c hm
    have nq : q ≠ p := ne_of_none h3 hp
    exact ⟨by rw [upd_ne nq]; exact h1, h2, u, by rw [upd_ne nq]; exact h3, h4.mono (Sub.ext S sp)⟩
/-- a new object of one's own -/
theorem Hg.own (g : Hg K en S H Γ) {p : Addr} {o : HO} {c : Ce} (hp : H p = none) (hc : ceOk K S c o) : Hg K en S (upd H p o) ((p, c) :: Γ) := by
  refine ⟨⟨g.hp.sub.upd (g.hp.sub.none hp), fun a u na e => ?_, fun a u e => ?_, g.hp.oh, g.hp.s0, g.hp.fresh⟩, ⟨fun q c' hm => ?_, ?_⟩⟩
  · have h := g.hp.keep a u na e
    rw [upd_ne (ne_of_none h hp)]; exact h
  · obtain ⟨u', h⟩ := g.hp.there a u e
    exact ⟨u', by rw [upd_ne (ne_of_none h hp)]; exact h⟩
  · rcases List.mem_cons.mp hm with e | hm
    · cases e
      exact ⟨g.hp.sub.none hp, .inr (g.h0 hp), o, upd_same, hc⟩
    · obtain ⟨h1, h2, u, h3, h4⟩ := g.ga.ce q c' hm
      have nq : q ≠ p := ne_of_none h3 hp
      exact ⟨h1, h2, u, by rw [upd_ne nq]; exact h3, h4⟩
  · rw [List.map_cons, List.nodup_cons]
    refine ⟨fun hm => ?_, g.ga.nd⟩
    obtain ⟨⟨q, c'⟩, hq, e⟩ := List.mem_map.mp hm
    have e' : q = p := e
    subst e'
    obtain ⟨_, _, u, h3, _⟩ := g.ga.ce q c' hq
    rw [hp] at h3; cases h3
/-- an object that is of no matter (untold) -/
theorem Hg.junk (g : Hg K en S H Γ) {p : Addr} {o : HO} (hp : H p = none) : Hg K en S (upd H p o) Γ := by
  refine ⟨⟨g.hp.sub.upd (g.hp.sub.none hp), fun a u na e => ?_, fun a u e => ?_, g.hp.oh, g.hp.s0, g.hp.fresh⟩, ⟨fun q c' hm => ?_, g.ga.nd⟩⟩
  · have h := g.hp.keep a u na e
    rw [upd_ne (ne_of_none h hp)]; exact h
  · obtain ⟨u', h⟩ := g.hp.there a u e
    exact ⟨u', by rw [upd_ne (ne_of_none h hp)]; exact h⟩
  · obtain ⟨h1, h2, u, h3, h4⟩ := g.ga.ce q c' hm
    have nq : q ≠ p := ne_of_none h3 hp
    exact ⟨h1, h2, u, by rw [upd_ne nq]; exact h3, h4⟩
/-- a call's end: what is shared grows by new objects alone, all else stays -/
structure Ext (S H S' H' : Hp) : Prop where
  up : Sub S S'
  sub : Sub S' H'
  same : Same H H'
  new : ∀ a o, S' a = some o → (∃ u, S a = some u) ∨ H a = none
theorem Hg.ext (g : Hg K en S H Γ) (e : Ext S H S' H') : Hg K en S' H' Γ := by
  refine ⟨⟨e.sub, fun a u na h => e.same _ _ (g.hp.keep a u na h), fun a u h => ?_, g.hp.oh, g.hp.s0.trans e.up, fun a u h => ?_⟩, ⟨fun q c hm => ?_, g.ga.nd⟩⟩
  · obtain ⟨u', h'⟩ := g.hp.there a u h
    exact ⟨u', e.same _ _ h'⟩
  · rcases e.new a u h with ⟨u', h'⟩ | h'
    · exact g.hp.fresh a u' h'
    · exact .inr (g.h0 h')
  · obtain ⟨h1, h2, u, h3, h4⟩ := g.ga.ce q c hm
    refine ⟨?_, h2, u, e.same _ _ h3, h4.mono e.up⟩
    cases z : S' q with
    | none => rfl
    | some o =>
      rcases e.new q o z with ⟨u', h'⟩ | h'
      · rw [h1] at h'; cases h'
      · rw [h3] at h'; cases h'
end
end RL

/-! RL2: operations on data, the judgement of expressions. -/
namespace RL
open PySem L2

namespace D
/-- flat: no object behind it -/
def flat : D → Bool
  | .non | .bl _ | .int _ | .str _ => true
  | _ => false
def toV : D → V
  | .bl b => .bl b
  | .int i => .int i
  | .str x => .str x
  | _ => .non
def isNon : D → Bool
  | .non => true
  | _ => false
mutual
def py : D → Option PyData
  | .non => some .none
  | .bl b => some (.bool b)
  | .int i => some (.int i)
  | .str x => some (.str x)
  | .lst l => (pys l).map PyData.list
  | .tup l => (pys l).map PyData.tuple
  | _ => none
def pys : List D → Option (List PyData)
  | [] => some []
  | d :: l => match py d, pys l with
    | some x, some r => some (x :: r)
    | _, _ => none
end
def look {κ : Type} [DecidableEq κ] : List (κ × D) → κ → Option D
  | [], _ => none
  | (k, d) :: r, j => if k = j then some d else look r j
def b (x : Bool) : Res D := .ok (.bl x)
def mulOk (i j : Int) : Bool := decide (i.natAbs < 18446744073709551616) || decide (j.natAbs < 18446744073709551616)
def add : D → D → Res D
  | .int i, .int j => .ok (.int (i + j))
  | .str x, .str y => if x.length + y.length ≤ sizeLine then .ok (.str (x ++ y)) else .stuck
  | .lst l, .lst m => if l.length + m.length ≤ sizeLine then .ok (.lst (l ++ m)) else .stuck
  | .tup (x :: l), .tup m => if (x :: l).length + m.length ≤ sizeLine then .ok (.tup (x :: l ++ m)) else .stuck
  | _, _ => .stuck
def sub : D → D → Res D
  | .int i, .int j => .ok (.int (i - j))
  | _, _ => .stuck
def repS (n : Nat) (x : Str) : Str := ⟨(List.replicate n x.cps).foldl (· ++ ·) #[]⟩
def repOk (n : Nat) (k : Int) : Bool := decide (0 ≤ k) && (decide (k ≤ 1000000) && decide (n * k.toNat ≤ 1000000))
def mul : D → D → Res D
  | .int i, .int j => if mulOk i j = true then .ok (.int (i * j)) else .stuck
  | .str x, .int k => if repOk x.length k = true then .ok (.str (repS k.toNat x)) else .stuck
  | .lst l, .int k => if repOk l.length k = true then .ok (.lst (List.replicate k.toNat l).flatten) else .stuck
  | _, _ => .stuck
def fdiv : D → D → Res D
  | .int i, .int j => if 0 < j ∧ j < 1073741824 then .ok (.int (i / j)) else .stuck
  | _, _ => .stuck
def mod : D → D → Res D
  | .int i, .int j => if 0 < j then .ok (.int (i % j)) else .stuck
  | _, _ => .stuck
def shl : D → D → Res D
  | .int i, .int j => if 0 ≤ j ∧ j ≤ 1000000 ∧ i.natAbs < 18446744073709551616 then .ok (.int (i * 2 ^ j.toNat)) else .stuck
  | _, _ => .stuck
def shr : D → D → Res D
  | .int i, .int j => if 0 ≤ j then .ok (.int (i / 2 ^ j.toNat)) else .stuck
  | _, _ => .stuck
def pow : D → D → Res D
  | .int i, .int j => if 0 ≤ j ∧ j ≤ 1000000 ∧ i.natAbs < 18446744073709551616 then .ok (.int (i ^ j.toNat)) else .stuck
  | _, _ => .stuck
def band : D → D → Res D
  | .int i, .int j => .ok (.int (Builtin.bitAnd i j))
  | _, _ => .stuck
def bor : D → D → Res D
  | .int i, .int j => .ok (.int (Builtin.bitOr i j))
  | _, _ => .stuck
def bxor : D → D → Res D
  | .int i, .int j => .ok (.int (Builtin.bitXor i j))
  | _, _ => .stuck
def neg : D → Res D
  | .int i => .ok (.int (-i))
  | _ => .stuck
def inv : D → Res D
  | .int i => .ok (.int (Builtin.bitNot i))
  | _ => .stuck
def lt : D → D → Res D
  | .int i, .int j => b (decide (i < j))
  | _, _ => .stuck
def le : D → D → Res D
  | .int i, .int j => b (decide (i ≤ j))
  | _, _ => .stuck
def gt : D → D → Res D
  | .int i, .int j => b (decide (j < i))
  | _, _ => .stuck
def ge : D → D → Res D
  | .int i, .int j => b (decide (j ≤ i))
  | _, _ => .stuck
def eqB : D → D → Res Bool
  | .int i, .int j => .ok (decide (i = j))
  | .bl i, .bl j => .ok (decide (i = j))
  | .str i, .str j => .ok (decide (i = j))
  | x, y => match py x, py y with
    | some p, some q => if SeqAt.shaped p = true ∧ SeqAt.shaped q = true then .ok (PyData.eqv p q) else .stuck
    | _, _ => .stuck
def eq (x y : D) : Res D := (eqB x y).bind fun c => b c
def ne (x y : D) : Res D := (eqB x y).bind fun c => b (!c)
def isN (x y : D) : Res D := if y.isNon then b x.isNon else .stuck
def isnN (x y : D) : Res D := if y.isNon then b (!x.isNon) else .stuck
def not : D → Res D
  | .bl c => b (!c)
  | _ => .stuck
def tru : D → Res Bool
  | .bl c => .ok c
  | .int i => .ok (i != 0)
  | _ => .stuck
/-- x in c -/
def inB : D → D → Res Bool
  | x, .lst l => if x.flat = true ∧ l.all flat = true then .ok (l.any fun y => eqV y.toV x.toV) else .stuck
  | x, .tup l => if x.flat = true ∧ l.all flat = true then .ok (l.any fun y => eqV y.toV x.toV) else .stuck
  | .int i, .dic l => .ok (look l (.inl i)).isSome
  | .str i, .dic l => .ok (look l (.inr i)).isSome
  | .str i, .str j => .ok (!(Builtin.Str.occurrences j i 0 j.length 1).isEmpty)
  | _, _ => .stuck
def inn (x y : D) : Res D := (inB x y).bind fun c => b c
def nin (x y : D) : Res D := (inB x y).bind fun c => b (!c)
/-- c[i] -/
def ix : D → D → Res D
  | .lst l, .int i => .ofOpt (atI l i)
  | .tup l, .int i => .ofOpt (atI l i)
  | .scr ns, .int i => .ofOpt ((atI ns i).map D.int)
  | .str x, .int i => if x.length ≤ sizeLine then .ofOpt ((atI x.cps.toList i).map fun c => .str ⟨#[c]⟩) else .stuck
  | .dic l, .int i => .ofOpt (look l (.inl i))
  | .dic l, .str i => .ofOpt (look l (.inr i))
  | _, _ => .stuck
def len : D → Res D
  | .lst l => .ok (.int l.length)
  | .tup l => .ok (.int l.length)
  | .scr l => .ok (.int l.length)
  | .str x => if x.length ≤ sizeLine then .ok (.int x.length) else .stuck
  | .dic l => .ok (.int l.length)
  | _ => .stuck
def cut {α : Type} (xs : List α) (lo hi : Option Int) : List α := (xs.drop (HT.sIx xs.length 0 lo)).take (HT.sIx xs.length xs.length hi - HT.sIx xs.length 0 lo)
def toI : Option D → Res (Option Int)
  | none => .ok none
  | some (.int i) => .ok (some i)
  | _ => .stuck
def sliceI (c : D) (lo hi : Option Int) : Res D := match c with
  | .lst l => .ok (.lst (cut l lo hi))
  | .tup l => if ¬ (HT.sIx l.length 0 lo = 0 ∧ HT.sIx l.length l.length hi = l.length) then .ok (.tup (cut l lo hi)) else .stuck
  | .scr l => .ok (.lst ((cut l lo hi).map D.int))
  | .str x => if x.length ≤ sizeLine then .ok (.str (cutS x lo hi)) else .stuck
  | _ => .stuck
def slice (c : D) (lo hi : Option D) : Res D := (toI lo).bind fun l => (toI hi).bind fun h => sliceI c l h
def allInt : List D → Option (List Int)
  | [] => some []
  | .int i :: r => (allInt r).map (i :: ·)
  | _ :: _ => none
def sum : D → Res D
  | .lst l => match allInt l with
    | some ns => .ok (.int ns.sum)
    | none => .stuck
  | .scr ns => .ok (.int ns.sum)
  | _ => .stuck
def max2 : D → D → Res D
  | .int i, .int j => .ok (.int (if j > i then j else i))
  | _, _ => .stuck
def min2 : D → D → Res D
  | .int i, .int j => .ok (.int (if j < i then j else i))
  | _, _ => .stuck
/-- list(c), tuple(c) -/
def toLst : D → Res D
  | .lst l => .ok (.lst l)
  | .tup l => .ok (.lst l)
  | .scr ns => .ok (.lst (ns.map D.int))
  | _ => .stuck
def toTup : D → Res D
  | .lst l => .ok (.tup l)
  | .tup l => .ok (.tup l)
  | .scr ns => .ok (.tup (ns.map D.int))
  | _ => .stuck
def toInt : D → Res D
  | .int i => .ok (.int i)
  | .bl c => .ok (.int (if c then 1 else 0))
  | _ => .stuck
def fld (tbl : List Str) (f : Str) : D → Res D
  | .obj c fs => if c ∈ tbl then .ofOpt (fs.lookup f) else .stuck
  | _ => .stuck
end D

theorem rep_flat {K : PySem.W.Frag} {S : Hp} {d : D} {v : V} (h : d.flat = true) (r : rep K S d v) : v = d.toV := by
  cases d <;> first | (unfold rep at r; exact r) | cases h
theorem rep_int {K : PySem.W.Frag} {S : Hp} {i : Int} : rep K S (.int i) (.int i) := by unfold rep; rfl
theorem rep_str {K : PySem.W.Frag} {S : Hp} {i : Str} : rep K S (.str i) (.str i) := by unfold rep; rfl
theorem rep_bl {K : PySem.W.Frag} {S : Hp} {i : Bool} : rep K S (.bl i) (.bl i) := by unfold rep; rfl
theorem rep_non {K : PySem.W.Frag} {S : Hp} : rep K S .non .non := by unfold rep; rfl
theorem rep_int_eq {K : PySem.W.Frag} {S : Hp} {i : Int} {v : V} (h : rep K S (.int i) v) : v = .int i := by unfold rep at h; exact h
theorem rep_str_eq {K : PySem.W.Frag} {S : Hp} {i : Str} {v : V} (h : rep K S (.str i) v) : v = .str i := by unfold rep at h; exact h
theorem rep_bl_eq {K : PySem.W.Frag} {S : Hp} {i : Bool} {v : V} (h : rep K S (.bl i) v) : v = .bl i := by unfold rep at h; exact h
theorem rep_non_eq {K : PySem.W.Frag} {S : Hp} {v : V} (h : rep K S .non v) : v = .non := by unfold rep at h; exact h
theorem rep_lst {K : PySem.W.Frag} {S : Hp} {l : List D} {v : V} (h : rep K S (.lst l) v) : ∃ p vs, v = .ref p ∧ Rd S p (.lst vs) ∧ reps K S l vs := by
  unfold rep at h
  obtain ⟨p, vs, e, q, rs⟩ := h
  exact ⟨p, vs, e, .inl q, rs⟩
theorem rep_lstP {K : PySem.W.Frag} {S : Hp} {l : List D} {v : V} (h : rep K S (.lst l) v) : ∃ p vs, v = .ref p ∧ S p = some (.lst vs) ∧ reps K S l vs := by unfold rep at h; exact h
theorem rep_dicP {K : PySem.W.Frag} {S : Hp} {l : List (Key × D)} {v : V} (h : rep K S (.dic l) v) : ∃ p vs, v = .ref p ∧ S p = some (.dK vs) ∧ repk K S l vs := by unfold rep at h; exact h
theorem rep_tup {K : PySem.W.Frag} {S : Hp} {l : List D} {v : V} (h : rep K S (.tup l) v) : ∃ p vs, v = .ref p ∧ SqT K S p vs ∧ reps K S l vs := by unfold rep at h; exact h
theorem rep_dic {K : PySem.W.Frag} {S : Hp} {l : List (Key × D)} {v : V} (h : rep K S (.dic l) v) : ∃ p vs, v = .ref p ∧ Rd S p (.dK vs) ∧ repk K S l vs := by
  unfold rep at h
  obtain ⟨p, vs, e, q, rs⟩ := h
  exact ⟨p, vs, e, .inl q, rs⟩
theorem rep_scr {K : PySem.W.Frag} {S : Hp} {l : List Int} {v : V} (h : rep K S (.scr l) v) : ∃ p, v = .ref p ∧ SqL K S p (l.map V.int) := by unfold rep at h; exact h
theorem rep_obj {K : PySem.W.Frag} {S : Hp} {c : Str} {fs : List (Str × D)} {v : V} (h : rep K S (.obj c fs) v) : ∃ p dx vs, v = .ref p ∧ S p = some (.ins (He.ga K c) dx vs) ∧ repf K S fs vs := by unfold rep at h; exact h
theorem rep_lst_new {K : PySem.W.Frag} {S : Hp} {l : List D} {vs : List V} {p : Addr} (sp : S p = none) (r : reps K S l vs) : rep K (upd S p (.lst vs)) (.lst l) (.ref p) := by
  unfold rep
  exact ⟨p, vs, rfl, upd_same, reps_mono (Sub.ext S sp) _ _ r⟩
theorem rep_tup_new {K : PySem.W.Frag} {S : Hp} {l : List D} {vs : List V} {p : Addr} (sp : S p = none) (r : reps K S l vs) : rep K (upd S p (.tup vs)) (.tup l) (.ref p) := by
  unfold rep
  exact ⟨p, vs, rfl, .inl (.inl upd_same), reps_mono (Sub.ext S sp) _ _ r⟩

/-- what is to be read here: a container may be a cell of one's own -/
def srep (K : PySem.W.Frag) (S H : Hp) : D → V → Prop
  | .lst l, v => ∃ p vs, v = .ref p ∧ Rd H p (.lst vs) ∧ reps K S l vs
  | .dic l, v => ∃ p vs, v = .ref p ∧ Rd H p (.dK vs) ∧ repk K S l vs
  | d, v => rep K S d v
theorem srep_of {K : PySem.W.Frag} {S H : Hp} (h : Sub S H) {d : D} {v : V} (r : rep K S d v) : srep K S H d v := by
  cases d with
  | lst l =>
    obtain ⟨p, vs, e, q, rs⟩ := rep_lst r
    exact ⟨p, vs, e, h.rd q, rs⟩
  | dic l =>
    obtain ⟨p, vs, e, q, rs⟩ := rep_dic r
    exact ⟨p, vs, e, h.rd q, rs⟩
  | _ => exact r
theorem srep_flat {K : PySem.W.Frag} {S H : Hp} {d : D} {v : V} (f : d.flat = true) (r : srep K S H d v) : rep K S d v := by
  cases d <;> first | exact r | cases f
theorem srep_int {K : PySem.W.Frag} {S H : Hp} {i : Int} {v : V} (h : srep K S H (.int i) v) : v = .int i := rep_int_eq (K := K) (S := S) h
theorem srep_str {K : PySem.W.Frag} {S H : Hp} {i : Str} {v : V} (h : srep K S H (.str i) v) : v = .str i := rep_str_eq (K := K) (S := S) h
theorem srep_bl {K : PySem.W.Frag} {S H : Hp} {i : Bool} {v : V} (h : srep K S H (.bl i) v) : v = .bl i := rep_bl_eq (K := K) (S := S) h
theorem srep_lst {K : PySem.W.Frag} {S H : Hp} {l : List D} {v : V} (h : srep K S H (.lst l) v) : ∃ p vs, v = .ref p ∧ Rd H p (.lst vs) ∧ reps K S l vs := h
theorem srep_dic {K : PySem.W.Frag} {S H : Hp} {l : List (Key × D)} {v : V} (h : srep K S H (.dic l) v) : ∃ p vs, v = .ref p ∧ Rd H p (.dK vs) ∧ repk K S l vs := h
/-! ### the judgements -/
/-- where one stands: the context, what is wanted of a refusal, the entry -/
structure Fr where
  X : Cx
  W : WX
  en : En
  tk : Takes X W

structure We (X : Cx) (e : Expr) (σ : St) (H : Hp) (Q : VK) : Prop where
  run : ∀ pins s, Inv X pins σ H s → wpAny (model X.prog X.w) X.A (eval e X.env) (EP X pins σ Q) X.xe s
structure Wt (X : Cx) (e : Expr) (σ : St) (H : Hp) (Q : Bool → Hp → Prop) : Prop where
  run : ∀ pins s, Inv X pins σ H s → wpAny (model X.prog X.w) X.A (isTrue e X.env (eval e X.env)) (TP X pins σ Q) X.xe s
structure Ww (X : Cx) (e : Expr) (σ : St) (H : Hp) (Q : Bool → Hp → Prop) : Prop where
  run : ∀ whole pins s, Inv X pins σ H s → wpAny (model X.prog X.w) X.A (isTrue e X.env whole) (TP X pins σ Q) X.xe s
structure Wa (X : Cx) (es : List Expr) (σ : St) (H : Hp) (Q : List V → Hp → Prop) : Prop where
  run : ∀ (pos : Pos) pins s, Inv X pins σ H s → wpAny (model X.prog X.w) X.A (spliced (backTo pos (starEach es X.env))) (AP X pins σ Q) X.xe s
section
variable {X : Cx} {e : Expr} {es : List Expr}
theorem pe_We : PE X e (We X e) := ⟨fun pins s σ H Q I h => h.run pins s I⟩
theorem pt_Wt : PT X e (Wt X e) := ⟨fun pins s σ H Q I h => h.run pins s I⟩
theorem pw_Ww : PW X e (Ww X e) := ⟨fun whole pins s σ H Q I h => h.run whole pins s I⟩
theorem pa_Wa : PA X es (Wa X es) := ⟨fun pos pins s σ H Q I h => h.run pos pins s I⟩
theorem We.of {t : TE} {σ : St} {H : Hp} {Q : VK} (h : PE X e t) (q : t σ H Q) : We X e σ H Q := ⟨fun pins s I => h.run pins s σ H Q I q⟩
theorem Wt.of {t : TT} {σ : St} {H : Hp} {Q : Bool → Hp → Prop} (h : PT X e t) (q : t σ H Q) : Wt X e σ H Q := ⟨fun pins s I => h.run pins s σ H Q I q⟩
theorem Ww.of {t : TT} {σ : St} {H : Hp} {Q : Bool → Hp → Prop} (h : PW X e t) (q : t σ H Q) : Ww X e σ H Q := ⟨fun whole pins s I => h.run whole pins s σ H Q I q⟩
theorem Wa.of {t : TA} {σ : St} {H : Hp} {Q : List V → Hp → Prop} (h : PA X es t) (q : t σ H Q) : Wa X es σ H Q := ⟨fun pos pins s I => h.run pos pins s σ H Q I q⟩
end
section
variable (F : Fr) (ρ : List Sl) (Γ : Ga)
/-- a refusal by the class named k is wanted, from here -/
def Xw (σ : St) (k : Str) : Prop := ∀ S' H', StOk F.X.K F.en S' H' σ ρ Γ → F.W (.ref (He.ga F.X.K k)) none σ H'
/-- the expression tells what m says -/
def E (e : Expr) (m : Res D) : Prop := ∀ S H σ Q, StOk F.X.K F.en S H σ ρ Γ →
  m.wp (fun d => ∀ v S' H', Sub S S' → StOk F.X.K F.en S' H' σ ρ Γ → rep F.X.K S' d v → Q v H') (Xw F ρ Γ σ) → We F.X e σ H Q
/-- a value that is read at once: it may be a cell of one's own -/
def Er (e : Expr) (m : Res D) : Prop := ∀ S H σ Q, StOk F.X.K F.en S H σ ρ Γ →
  m.wp (fun d => ∀ v S' H', Sub S S' → StOk F.X.K F.en S' H' σ ρ Γ → (∀ S'' H'', Sub S' S'' → Hg F.X.K F.en S'' H'' Γ → srep F.X.K S'' H'' d v) → Q v H') (Xw F ρ Γ σ) → We F.X e σ H Q
def Ea (es : List Expr) (m : Res (List D)) : Prop := ∀ S H σ Q, StOk F.X.K F.en S H σ ρ Γ →
  m.wp (fun d => ∀ v S' H', Sub S S' → StOk F.X.K F.en S' H' σ ρ Γ → reps F.X.K S' d v → Q v H') (Xw F ρ Γ σ) → Wa F.X es σ H Q
def T (e : Expr) (m : Res Bool) : Prop := ∀ S H σ Q, StOk F.X.K F.en S H σ ρ Γ →
  m.wp (fun b => ∀ S' H', Sub S S' → StOk F.X.K F.en S' H' σ ρ Γ → Q b H') (Xw F ρ Γ σ) → Wt F.X e σ H Q
def Tw (e : Expr) (m : Res Bool) : Prop := ∀ S H σ Q, StOk F.X.K F.en S H σ ρ Γ →
  m.wp (fun b => ∀ S' H', Sub S S' → StOk F.X.K F.en S' H' σ ρ Γ → Q b H') (Xw F ρ Γ σ) → Ww F.X e σ H Q
end
section
variable {F : Fr} {ρ : List Sl} {Γ : Ga} {e : Expr} {es : List Expr}
theorem E.eq {m m' : Res D} (h : E F ρ Γ e m) (q : m = m') : E F ρ Γ e m' := q ▸ h
/-- a part's telling, then more -/
theorem E.go {m : Res D} (h : E F ρ Γ e m) {α : Type} {f : D → Res α} {S H σ Q} {P : α → Prop} (s : StOk F.X.K F.en S H σ ρ Γ) (w : (m.bind f).wp P (Xw F ρ Γ σ))
    (k : ∀ d v S' H', Sub S S' → StOk F.X.K F.en S' H' σ ρ Γ → rep F.X.K S' d v → (f d).wp P (Xw F ρ Γ σ) → Q v H') : We F.X e σ H Q :=
  h S H σ Q s (Res.wp_mono (Res.wp_bind w) (fun d z v S' H' u s' r => k d v S' H' u s' r z) fun _ z => z)
theorem Ea.go {m : Res (List D)} (h : Ea F ρ Γ es m) {α : Type} {f : List D → Res α} {S H σ Q} {P : α → Prop} (s : StOk F.X.K F.en S H σ ρ Γ) (w : (m.bind f).wp P (Xw F ρ Γ σ))
    (k : ∀ d v S' H', Sub S S' → StOk F.X.K F.en S' H' σ ρ Γ → reps F.X.K S' d v → (f d).wp P (Xw F ρ Γ σ) → Q v H') : Wa F.X es σ H Q :=
  h S H σ Q s (Res.wp_mono (Res.wp_bind w) (fun d z v S' H' u s' r => k d v S' H' u s' r z) fun _ z => z)
theorem T.go {m : Res Bool} (h : T F ρ Γ e m) {α : Type} {f : Bool → Res α} {S H σ Q} {P : α → Prop} (s : StOk F.X.K F.en S H σ ρ Γ) (w : (m.bind f).wp P (Xw F ρ Γ σ))
    (k : ∀ b S' H', Sub S S' → StOk F.X.K F.en S' H' σ ρ Γ → (f b).wp P (Xw F ρ Γ σ) → Q b H') : Wt F.X e σ H Q :=
  h S H σ Q s (Res.wp_mono (Res.wp_bind w) (fun d z S' H' u s' => k d S' H' u s' z) fun _ z => z)
theorem E.r {m : Res D} (h : E F ρ Γ e m) : Er F ρ Γ e m := fun S H σ Q s w =>
  h S H σ Q s (Res.wp_mono w (fun d z v S' H' u s' r => z v S' H' u s' fun S'' H'' u' g => srep_of g.hp.sub (rep_mono u' _ _ r)) fun _ z => z)
theorem Er.go {m : Res D} (h : Er F ρ Γ e m) {α : Type} {f : D → Res α} {S H σ Q} {P : α → Prop} (s : StOk F.X.K F.en S H σ ρ Γ) (w : (m.bind f).wp P (Xw F ρ Γ σ))
    (k : ∀ d v S' H', Sub S S' → StOk F.X.K F.en S' H' σ ρ Γ → (∀ S'' H'', Sub S' S'' → Hg F.X.K F.en S'' H'' Γ → srep F.X.K S'' H'' d v) → (f d).wp P (Xw F ρ Γ σ) → Q v H') : We F.X e σ H Q :=
  h S H σ Q s (Res.wp_mono (Res.wp_bind w) (fun d z v S' H' u s' r => k d v S' H' u s' r z) fun _ z => z)
theorem wp_ok {α : Type} {a : α} {P : α → Prop} {R : Str → Prop} (h : (Res.ok a).wp P R) : P a := h
/-! ### names, constants -/
theorem e_var {d : D} (i : Nat) (hd : ρ[i]? = some (.is d)) {x : Str} {pos : Pos} (hN : F.X.N[i]? = some x := by rfl) (hv : Vis F.X.env.scope x := by first | exact Or.inl rfl | exact Or.inr (Or.inl rfl) | exact Or.inr (Or.inr rfl))
    (h1 : (x == ("__debug__" : Str)) = false := by decide) (h2 : (x == ("__classdict__" : Str)) = false := by decide) : E F ρ Γ (.Name x pos) (.ok d) := fun S H σ Q s w => by
  obtain ⟨o, e, v, rfl, r⟩ := s.sl.get hd
  exact We.of (pe_var hN hv h1 h2) ⟨v, e, w v S H (Sub.refl S) s r⟩
theorem e_int {n : Int} {k : Nat} {pos : Pos} : E F ρ Γ (.Constant (.int n) k pos) (.ok (.int n)) := fun S H σ Q s w =>
  We.of pe_int (w _ S H (Sub.refl S) s rep_int)
theorem e_str {x : Str} {k : Nat} {pos : Pos} : E F ρ Γ (.Constant (.str x) k pos) (.ok (.str x)) := fun S H σ Q s w =>
  We.of pe_str (w _ S H (Sub.refl S) s rep_str)
theorem e_bl {x : Bool} {k : Nat} {pos : Pos} : E F ρ Γ (.Constant (.bool x) k pos) (.ok (.bl x)) := fun S H σ Q s w =>
  We.of pe_bl (w _ S H (Sub.refl S) s rep_bl)
theorem e_non {k : Nat} {pos : Pos} : E F ρ Γ (.Constant .none k pos) (.ok .non) := fun S H σ Q s w =>
  We.of pe_non (w _ S H (Sub.refl S) s rep_non)
end

theorem sub_emp {S : Hp} : Sub (fun _ => Option.none) S := fun _ _ z => by cases z
/-! ### two-place operations -/
/-- an operation told by f, over what is shared -/
def rD (K : PySem.W.Frag) (f : D → D → Res D) : R2 := fun x y H Q => ∃ en S Γ R d e, Hg K en S H Γ ∧ srep K S H d x ∧ srep K S H e y ∧
  (f d e).wp (fun r => ∀ z S' H', Sub S S' → Hg K en S' H' Γ → rep K S' r z → Q z H') R
section
variable {X : Cx}
/-- ints alone -/
theorem opD_int {f : Value → Value → Sem Value} {C : Int → Int → Prop} {g : Int → Int → V} {op : D → D → Res D} (h : OpR X f (rI C g))
    (c : ∀ d e P R, (op d e).wp P R → ∃ i j, d = .int i ∧ e = .int j ∧ C i j ∧ ∃ r, rep X.K (fun _ => none) r (g i j) ∧ P r) : OpR X f (rD X.K op) := by
  intro pins s σ H x y v u Q I rx ry hh
  obtain ⟨en, S, Γ, R, d, e, hg, rd, re, w⟩ := hh
  obtain ⟨i, j, rfl, rfl, hc, r, hr, w⟩ := c d e _ _ w
  rw [srep_int rd] at rx
  rw [srep_int re] at ry
  exact h pins s σ H _ _ v u Q I rx ry ⟨i, j, rfl, rfl, hc, w _ S H (Sub.refl S) hg (rep_mono sub_emp _ _ hr)⟩
theorem opD_int0 {f : Value → Value → Sem Value} {g : Int → Int → V} {op : D → D → Res D} (h : OpR X f (rI0 g))
    (c : ∀ d e P R, (op d e).wp P R → ∃ i j, d = .int i ∧ e = .int j ∧ ∃ r, rep X.K (fun _ => none) r (g i j) ∧ P r) : OpR X f (rD X.K op) := by
  intro pins s σ H x y v u Q I rx ry hh
  obtain ⟨en, S, Γ, R, d, e, hg, rd, re, w⟩ := hh
  obtain ⟨i, j, rfl, rfl, r, hr, w⟩ := c d e _ _ w
  rw [srep_int rd] at rx
  rw [srep_int re] at ry
  exact h pins s σ H _ _ v u Q I rx ry ⟨i, j, rfl, rfl, w _ S H (Sub.refl S) hg (rep_mono sub_emp _ _ hr)⟩
theorem opD_sub : OpR X (binaryOp .Sub) (rD X.K D.sub) := opD_int0 op_sub fun d e P R w => by
  unfold D.sub at w; split at w
  · exact ⟨_, _, rfl, rfl, _, rep_int, w⟩
  · exact w.elim
theorem reps_rep {K : PySem.W.Frag} {S : Hp} {l : List D} {vs : List V} (r : reps K S l vs) : ∀ n : Nat, reps K S (List.replicate n l).flatten (List.replicate n vs).flatten
  | 0 => reps_nil
  | n + 1 => by
    rw [List.replicate_succ, List.replicate_succ, List.flatten_cons, List.flatten_cons]
    exact reps_app r (reps_rep r n)
theorem D.repOk_eq {n : Nat} {k : Int} (h : D.repOk n k = true) : 0 ≤ k ∧ k ≤ 1000000 ∧ n * k.toNat ≤ 1000000 := by
  unfold D.repOk at h
  rw [Bool.and_eq_true, Bool.and_eq_true, decide_eq_true_eq, decide_eq_true_eq, decide_eq_true_eq] at h
  exact h
theorem fold_app {α : Type} (a : Array α) : ∀ (n : Nat) (b : Array α), (List.replicate n a).foldl (· ++ ·) b = b ++ (List.replicate n a).foldl (· ++ ·) #[]
  | 0, b => by simp
  | n + 1, b => by
    rw [List.replicate_succ, List.foldl_cons, List.foldl_cons, fold_app a n (b ++ a), fold_app a n (#[] ++ a)]
    simp
theorem D.repS_len (x : Str) : ∀ n : Nat, (D.repS n x).length = n * x.length
  | 0 => by
    rw [Nat.zero_mul]
    rfl
  | n + 1 => by
    have ih := D.repS_len x n
    unfold D.repS Str.length at ih ⊢
    rw [List.replicate_succ, List.foldl_cons, fold_app, Array.size_append, ih]
    simp only [Array.empty_append]
    rw [Nat.succ_mul]
    omega
theorem op_mul_str : OpR X (binaryOp .Mult) (fun x y H Q => ∃ i k, x = .str i ∧ y = .int k ∧ D.repOk i.length k = true ∧ Q (.str (D.repS k.toNat i)) H) := by
  intro pins s σ H x y v u Q I rx ry h
  obtain ⟨i, k, rfl, rfl, hz, q⟩ := h
  obtain ⟨h0, h1, h2⟩ := D.repOk_eq hz
  obtain ⟨t, rfl⟩ := rx
  obtain ⟨t', rfl⟩ := ry
  have c0 : (decide (k < -(2 ^ 63 : Int)) || decide (k ≥ 2 ^ 63)) = false := by
    rw [decide_eq_false (by omega), decide_eq_false (by omega)]; rfl
  have hm : k * (i.length : Int) ≤ 1000000 := by
    obtain ⟨m, rfl⟩ := Int.eq_ofNat_of_zero_le h0
    rw [Int.toNat_natCast] at h2
    have h3 : ((i.length * m : Nat) : Int) ≤ 1000000 := by omega
    rw [Int.natCast_mul, Int.mul_comm] at h3
    exact h3
  refine PySem.P.mul_str c0 (fun hk _ => ?_) (fun _ _ => ?_) ?_
  · intro hgt
    have hk' : 0 < k := by omega
    have h3 := Int.lt_ediv_add_one_mul_self ((2 : Int) ^ 63 - 1) hk'
    have h4 : ((2 : Int) ^ 63 - 1) / k + 1 ≤ (i.length : Int) := hgt
    have h5 : (((2 : Int) ^ 63 - 1) / k + 1) * k ≤ (i.length : Int) * k := Int.mul_le_mul_of_nonneg_right h4 h0
    rw [Int.mul_comm] at hm
    omega
  · unfold Builtin.Str.tooLong
    rw [sizeLine_eq]
    exact decide_eq_false (by omega)
  · have l2 : (D.repS k.toNat i).length ≤ sizeLine := by
      rw [D.repS_len, sizeLine_eq, Nat.mul_comm]; omega
    split
    · rename_i hk
      have e : k.toNat = 0 := by omega
      refine ⟨by rw [sizeLine_eq]; decide, .str (D.repS k.toNat i), H, I.tok _, ⟨s.toks, ?_⟩, q⟩
      rw [e]; rfl
    · split
      · rename_i hk1
        rw [Bool.or_eq_true, beq_iff_eq, beq_iff_eq] at hk1
        refine ⟨.str (D.repS k.toNat i), H, I, ⟨t, ?_⟩, q⟩
        rcases hk1 with hk1 | hk1
        · subst hk1
          have e : D.repS 1 i = i := by
            unfold D.repS
            rw [List.replicate_succ, List.foldl_cons]
            simp
          show Value.str i t = Value.str (D.repS 1 i) t
          rw [e]
        · have e : D.repS k.toNat i = i := by
            have l1 : (D.repS k.toNat i).length = 0 := by rw [D.repS_len, hk1, Nat.mul_zero]
            have z1 := (TL.len0_tl (D.repS k.toNat i)).mp l1
            have z2 := (TL.len0_tl i).mp hk1
            exact TL.ext_tl (z1.trans z2.symm)
          rw [e]
      · exact ⟨l2, .str (D.repS k.toNat i), H, I.tok _, ⟨_, rfl⟩, q⟩
/-- a told list times an int -/
theorem op_repR : OpR X (binaryOp .Mult) (fun x y H Q => ∃ l k xs, x = .ref l ∧ y = .int k ∧ Rd H l (.lst xs) ∧ 0 ≤ k ∧ k ≤ 1000000 ∧ xs.length * k.toNat ≤ sizeLine ∧ ∀ p, H p = none → Q (.ref p) (upd H p (.lst (List.replicate k.toNat xs).flatten))) := by
  intro pins s σ H x y v u Q I rx ry h
  obtain ⟨l, k, xs, rfl, rfl, hH, h1, h2, hz, q⟩ := h
  cases rx
  obtain ⟨t, rfl⟩ := ry
  obtain ⟨z, its, n, r, e⟩ := hH.ok I.hok
  have hl := r.length
  have hlen : its.toArray.size * k.toNat ≤ sizeLine := by rw [List.size_toArray, ← hl]; exact hz
  have hcap : ¬ its.toArray.size * k.toNat > (2 ^ 63 - 1) / 8 := by
    have : (sizeLine : Nat) ≤ (2 ^ 63 - 1) / 8 := by decide
    omega
  have hfit : ¬ (!Builtin.List.listFitsIndex k) = true := by
    rw [fitsIndex_both (by omega) (by omega)]
    exact Bool.false_ne_true
  have hlong : ¬ Builtin.List.listTooLong (its.toArray.size * k.toNat) = true := by
    rw [notLongL hlen]
    exact Bool.false_ne_true
  have hnew : List.foldl (fun x1 x2 => x1 ++ x2) #[] (List.replicate (if its.toArray.isEmpty = true then 0 else k.toNat) its.toArray) = (List.replicate k.toNat its).flatten.toArray := by
    have f0 : ∀ m : Nat, List.foldl (fun x1 x2 => x1 ++ x2) #[] (List.replicate m its.toArray) = (List.replicate m its).flatten.toArray := fun m => by
      have := foldl_rep its m []
      rw [List.nil_append] at this
      exact this
    rw [f0]
    cases its with
    | nil => simp
    | cons a r' => rw [if_neg (by simp)]
  refine wpAny_binaryOp_repeat_ref (T := "list") (U := "int") (by decide) ⟨_, e, rfl⟩ (fun s' => typeIs_int s' k t) noFill_list_mul F.fills_int_mul F.slot_int_rmul repeat_list F.slot_int_index.lookup
    (call_meets F.slot_int_rmul (typeIs_int s k t) F.entry_int_rmul (F.args_int_rmul_2 _ _) (int___rmul___int_list k t l its.toArray n)
      ⟨e, rfl, ⟨_, e, rfl⟩, call_meets F.slot_list_mul ⟨_, e, rfl⟩ F.entry_list_mul (F.args_list_mul_2 _ _) (AutoListH.list___mul___list_int_3 l its.toArray n k t hfit hcap hlong) ⟨e, ?_⟩⟩)
  rw [hnew]
  exact ⟨.ref _, _, I.lnew (t' := s.toks) (r.rep k.toNat) (by rw [PyProof.Rows.lm_len_rep_flat, Nat.mul_comm]; exact hz), rfl, q _ I.fresh⟩
theorem opD_mul : OpR X (binaryOp .Mult) (rD X.K D.mul) := by
  intro pins s σ H x y v u Q I rx ry hh
  obtain ⟨en, S, Γ, R, d, e, hg, rd, re, w⟩ := hh
  unfold D.mul at w
  split at w
  · split at w
    · rename_i i j h
      rw [srep_int rd] at rx
      rw [srep_int re] at ry
      refine op_mul pins s σ H _ _ v u Q I rx ry ⟨_, _, rfl, rfl, ?_, w _ S H (Sub.refl S) hg rep_int⟩
      unfold D.mulOk at h
      rw [Bool.or_eq_true, decide_eq_true_eq, decide_eq_true_eq] at h
      unfold CMul
      omega
    · exact w.elim
  · split at w
    · rename_i h
      rw [srep_str rd] at rx; rw [srep_int re] at ry
      exact op_mul_str pins s σ H _ _ v u Q I rx ry ⟨_, _, rfl, rfl, h, w _ S H (Sub.refl S) hg rep_str⟩
    · exact w.elim
  · split at w
    · rename_i h
      obtain ⟨h0, h1, h2⟩ := D.repOk_eq h
      obtain ⟨p, vs, rfl, h3, r1⟩ := srep_lst rd
      rw [srep_int re] at ry
      refine op_repR pins s σ H _ _ v u Q I rx ry ⟨_, _, vs, rfl, rfl, h3, h0, h1, by rw [reps_len r1, sizeLine_eq]; omega, fun p hp => ?_⟩
      have sp := hg.hp.sub.none hp
      exact w _ _ _ (Sub.ext S sp) (hg.share hp) (rep_lst_new sp (reps_rep r1 _))
    · exact w.elim
  · exact w.elim
theorem opD_fdiv : OpR X (binaryOp .FloorDiv) (rD X.K D.fdiv) := opD_int op_fdiv fun d e P R w => by
  unfold D.fdiv at w; split at w
  · split at w
    · exact ⟨_, _, rfl, rfl, by assumption, _, rep_int, w⟩
    · exact w.elim
  · exact w.elim
theorem opD_mod : OpR X (binaryOp .Mod) (rD X.K D.mod) := opD_int op_mod fun d e P R w => by
  unfold D.mod at w; split at w
  · split at w
    · exact ⟨_, _, rfl, rfl, by assumption, _, rep_int, w⟩
    · exact w.elim
  · exact w.elim
theorem opD_shl : OpR X (binaryOp .LShift) (rD X.K D.shl) := opD_int op_shl fun d e P R w => by
  unfold D.shl at w; split at w
  · split at w
    · rename_i h
      exact ⟨_, _, rfl, rfl, ⟨h.1, h.2.1, h.2.2⟩, _, rep_int, w⟩
    · exact w.elim
  · exact w.elim
theorem opD_pow : OpR X (binaryOp .Pow) (rD X.K D.pow) := opD_int op_pow fun d e P R w => by
  unfold D.pow at w; split at w
  · split at w
    · rename_i h
      exact ⟨_, _, rfl, rfl, ⟨h.1, h.2.1, h.2.2⟩, _, rep_int, w⟩
    · exact w.elim
  · exact w.elim
theorem opD_shr : OpR X (binaryOp .RShift) (rD X.K D.shr) := opD_int op_shr fun d e P R w => by
  unfold D.shr at w; split at w
  · split at w
    · exact ⟨_, _, rfl, rfl, by assumption, _, rep_int, w⟩
    · exact w.elim
  · exact w.elim
theorem opD_band : OpR X (binaryOp .BitAnd) (rD X.K D.band) := opD_int0 op_and fun d e P R w => by
  unfold D.band at w; split at w
  · exact ⟨_, _, rfl, rfl, _, rep_int, w⟩
  · exact w.elim
theorem opD_bor : OpR X (binaryOp .BitOr) (rD X.K D.bor) := opD_int0 op_or fun d e P R w => by
  unfold D.bor at w; split at w
  · exact ⟨_, _, rfl, rfl, _, rep_int, w⟩
  · exact w.elim
theorem opD_bxor : OpR X (binaryOp .BitXor) (rD X.K D.bxor) := opD_int0 op_xor fun d e P R w => by
  unfold D.bxor at w; split at w
  · exact ⟨_, _, rfl, rfl, _, rep_int, w⟩
  · exact w.elim
theorem opD_lt : OpR X (compareOp .Lt) (rD X.K D.lt) := opD_int0 op_lt fun d e P R w => by
  unfold D.lt at w; split at w
  · exact ⟨_, _, rfl, rfl, _, rep_bl, w⟩
  · exact w.elim
theorem opD_le : OpR X (compareOp .LtE) (rD X.K D.le) := opD_int0 op_le fun d e P R w => by
  unfold D.le at w; split at w
  · exact ⟨_, _, rfl, rfl, _, rep_bl, w⟩
  · exact w.elim
theorem opD_gt : OpR X (compareOp .Gt) (rD X.K D.gt) := opD_int0 op_gt fun d e P R w => by
  unfold D.gt at w; split at w
  · exact ⟨_, _, rfl, rfl, _, rep_bl, w⟩
  · exact w.elim
theorem opD_ge : OpR X (compareOp .GtE) (rD X.K D.ge) := opD_int0 op_ge fun d e P R w => by
  unfold D.ge at w; split at w
  · exact ⟨_, _, rfl, rfl, _, rep_bl, w⟩
  · exact w.elim
/-- list + list, both told (the left or the right may be locked) -/
theorem op_catR : OpR X (binaryOp .Add) (fun x y H Q => ∃ l b xs zs, x = .ref l ∧ y = .ref b ∧ Rd H l (.lst xs) ∧ Rd H b (.lst zs) ∧ xs.length + zs.length ≤ sizeLine ∧ ∀ p, H p = none → Q (.ref p) (upd H p (.lst (xs ++ zs)))) := by
  intro pins s σ H x y v u Q I rx ry h
  obtain ⟨l, b, xs, zs, rfl, rfl, hH, hB, hz, q⟩ := h
  cases rx
  cases ry
  obtain ⟨z, its, n, r, e⟩ := hH.ok I.hok
  obtain ⟨z2, its2, n2, r2, e2⟩ := hB.ok I.hok
  have hl := r.length
  have hl2 := r2.length
  refine PySem.P.add_list e e2 ?_ (by rw [List.size_toArray, List.size_toArray]; omega)
  have ea : its.toArray ++ its2.toArray = (its ++ its2).toArray := by simp
  rw [ea]
  exact ⟨.ref _, _, I.lnew (t' := s.toks) (r.append r2) (by rw [List.length_append]; omega), rfl, q _ I.fresh⟩
theorem opD_add : OpR X (binaryOp .Add) (rD X.K D.add) := by
  intro pins s σ H x y v u Q I rx ry hh
  obtain ⟨en, S, Γ, R, d, e, hg, rd, re, w⟩ := hh
  unfold D.add at w
  split at w
  · rw [srep_int rd] at rx; rw [srep_int re] at ry
    exact op_add pins s σ H _ _ v u Q I rx ry ⟨_, _, rfl, rfl, w _ S H (Sub.refl S) hg rep_int⟩
  · split at w
    · rename_i h
      rw [srep_str rd] at rx; rw [srep_str re] at ry
      exact op_add_str pins s σ H _ _ v u Q I rx ry ⟨_, _, rfl, rfl, h, w _ S H (Sub.refl S) hg rep_str⟩
    · exact w.elim
  · split at w
    · rename_i h
      obtain ⟨p, vs, rfl, h1, r1⟩ := srep_lst rd
      obtain ⟨q, us, rfl, h2, r2⟩ := srep_lst re
      refine op_catR pins s σ H _ _ v u Q I rx ry ⟨_, _, vs, us, rfl, rfl, h1, h2, by rw [reps_len r1, reps_len r2]; exact h, fun p hp => ?_⟩
      have sp := hg.hp.sub.none hp
      exact w _ _ _ (Sub.ext S sp) (hg.share hp) (rep_lst_new sp (reps_app r1 r2))
    · exact w.elim
  · split at w
    · rename_i h
      obtain ⟨p, vs, rfl, h1, r1⟩ := rep_tup (K := X.K) (S := S) rd
      obtain ⟨q, us, rfl, h2, r2⟩ := rep_tup (K := X.K) (S := S) re
      have l1 := reps_len r1
      have l2 := reps_len r2
      refine op_catT pins s σ H _ _ v u Q I rx ry ⟨_, _, vs, us, rfl, rfl, hg.hp.sub.sqT h1, hg.hp.sub.sqT h2, fun z => ?_, by rw [l1, l2]; exact h, fun z => ?_, fun _ p hp => ?_⟩
      · rw [z] at l1; cases l1
      · rw [z] at l2
        have e0 := List.length_eq_zero_iff.mp l2.symm
        subst e0
        refine w _ S H (Sub.refl S) hg ?_
        rw [List.append_nil]; exact rd
      · have sp := hg.hp.sub.none hp
        exact w _ _ _ (Sub.ext S sp) (hg.share hp) (rep_tup_new sp (reps_app r1 r2))
    · exact w.elim
  · exact w.elim
end
end RL

/-! RL3: rules of expressions. -/
namespace RL
open PySem L2

theorem toV_of {K : PySem.W.Frag} {S : Hp} {d : D} {v : V} (h : d.flat = true) (r : rep K S d v) : v = d.toV := by
  cases d with
  | non => exact rep_non_eq r
  | bl b => exact rep_bl_eq r
  | int i => exact rep_int_eq r
  | str x => exact rep_str_eq r
  | _ => cases h
theorem isNon_iff {K : PySem.W.Frag} {S : Hp} {d : D} {v : V} (r : rep K S d v) : decide (v = .non) = d.isNon := by
  cases d with
  | non => rw [rep_non_eq r]; rfl
  | bl b => rw [rep_bl_eq r]; rfl
  | int i => rw [rep_int_eq r]; rfl
  | str x => rw [rep_str_eq r]; rfl
  | lst l => obtain ⟨p, vs, rfl, _⟩ := rep_lst r; rfl
  | tup l => obtain ⟨p, vs, rfl, _⟩ := rep_tup r; rfl
  | dic l => obtain ⟨p, vs, rfl, _⟩ := rep_dic r; rfl
  | scr l => obtain ⟨p, rfl, _⟩ := rep_scr r; rfl
  | obj c fs => obtain ⟨p, dx, vs, rfl, _⟩ := rep_obj r; rfl
section
variable {K : PySem.W.Frag} {S H : Hp}
mutual
theorem rep_dp (h : Sub S H) : ∀ (d : D) (v : V) (p : PyData), rep K S d v → d.py = some p → Dp K H v p
  | .non, v, p, r, e => by
    rw [rep_non_eq r]
    unfold D.py at e; cases e; exact .non
  | .bl b, v, p, r, e => by
    rw [rep_bl_eq r]
    unfold D.py at e; cases e; exact .bl b
  | .int i, v, p, r, e => by
    rw [rep_int_eq r]
    unfold D.py at e; cases e; exact .int i
  | .str x, v, p, r, e => by
    rw [rep_str_eq r]
    unfold D.py at e; cases e; exact .str x
  | .lst l, v, p, r, e => by
    obtain ⟨a, vs, rfl, hr, rs⟩ := rep_lst r
    unfold D.py at e
    cases q : D.pys l with
    | none => rw [q] at e; cases e
    | some ps =>
      rw [q] at e; cases e
      exact .lst (.inl (h.rd hr)) (reps_dp h l vs ps rs q)
  | .tup l, v, p, r, e => by
    obtain ⟨a, vs, rfl, hr, rs⟩ := rep_tup r
    unfold D.py at e
    cases q : D.pys l with
    | none => rw [q] at e; cases e
    | some ps =>
      rw [q] at e; cases e
      exact .tup (h.sqT hr) (reps_dp h l vs ps rs q)
  | .dic l, v, p, r, e => by unfold D.py at e; cases e
  | .scr l, v, p, r, e => by unfold D.py at e; cases e
  | .obj c fs, v, p, r, e => by unfold D.py at e; cases e
theorem reps_dp (h : Sub S H) : ∀ (l : List D) (vs : List V) (ps : List PyData), reps K S l vs → D.pys l = some ps → DpAll K H vs ps
  | [], vs, ps, r, e => by
    unfold reps at r; subst r
    unfold D.pys at e; cases e; exact .nil
  | d :: l, vs, ps, r, e => by
    unfold reps at r
    obtain ⟨v, t, rfl, q, rs⟩ := r
    unfold D.pys at e
    cases h1 : D.py d with
    | none => rw [h1] at e; cases e
    | some x =>
      cases h2 : D.pys l with
      | none => rw [h1, h2] at e; cases e
      | some y =>
        rw [h1, h2] at e; cases e
        exact .cons (rep_dp h d v x q h1) (reps_dp h l t y rs h2)
end
theorem flat_all : ∀ {l : List D} {vs : List V}, reps K S l vs → l.all D.flat = true → vs = l.map D.toV ∧ vs.all flatV = true
  | [], vs, r, _ => by unfold reps at r; subst r; exact ⟨rfl, rfl⟩
  | d :: l, vs, r, h => by
    unfold reps at r
    obtain ⟨v, t, rfl, q, rs⟩ := r
    rw [List.all_cons, Bool.and_eq_true] at h
    obtain ⟨e1, e2⟩ := flat_all rs h.2
    have e3 := toV_of h.1 q
    subst e3
    refine ⟨by rw [e1]; rfl, ?_⟩
    rw [List.all_cons, e2, Bool.and_true]
    cases d <;> first | rfl | (have := h.1; cases this)
theorem ints_all : ∀ {l : List D} {vs : List V} {ns : List Int}, reps K S l vs → D.allInt l = some ns → vs = ns.map V.int
  | [], vs, ns, r, e => by
    unfold reps at r; subst r
    unfold D.allInt at e; cases e; rfl
  | d :: l, vs, ns, r, e => by
    unfold reps at r
    obtain ⟨v, t, rfl, q, rs⟩ := r
    cases d with
    | int i =>
      unfold D.allInt at e
      cases h2 : D.allInt l with
      | none => rw [h2] at e; cases e
      | some y =>
        rw [h2] at e; cases e
        rw [rep_int_eq q, ints_all rs h2]; rfl
    | _ => unfold D.allInt at e; cases e
theorem repk_len : ∀ {l : List (Key × D)} {vs : List (Key × V)}, repk K S l vs → vs.length = l.length
  | [], vs, r => by unfold repk at r; subst r; rfl
  | (k, d) :: l, vs, r => by
    unfold repk at r
    obtain ⟨v, t, rfl, _, rs⟩ := r
    simp [repk_len rs]
theorem repk_look : ∀ {l : List (Key × D)} {vs : List (Key × V)} {k : Key}, repk K S l vs → match D.look l k with
    | some d => ∃ v, valV vs k = some v ∧ rep K S d v
    | none => valV vs k = none
  | [], vs, k, r => by unfold repk at r; subst r; rfl
  | (j, d) :: l, vs, k, r => by
    unfold repk at r
    obtain ⟨v, t, rfl, q, rs⟩ := r
    unfold D.look
    by_cases h : j = k
    · rw [if_pos h]
      exact ⟨v, by rw [valV_pos h], q⟩
    · rw [if_neg h]
      have ih := repk_look (k := k) rs
      rw [valV_neg h]
      exact ih
theorem cut_V {α β : Type} (f : α → β) (xs : List α) (lo hi : Option Int) : D.cut (xs.map f) lo hi = (D.cut xs lo hi).map f := by
  unfold D.cut
  rw [List.map_take, List.map_drop, List.length_map]
theorem reps_cut {l : List D} {vs : List V} (r : reps K S l vs) (lo hi : Option Int) : reps K S (D.cut l lo hi) (cutV vs lo hi) := by
  unfold D.cut cutV
  rw [reps_len r]
  exact reps_take _ (reps_drop _ r)
theorem atI_rep {l : List D} {vs : List V} {i : Int} {d : D} (r : reps K S l vs) (h : atI l i = some d) : ∃ v, atI vs i = some v ∧ rep K S d v := by
  unfold atI at h ⊢
  rw [reps_len r]
  cases q : ixN l.length i with
  | none => rw [q] at h; cases h
  | some j =>
    rw [q] at h
    exact reps_get r h
theorem atI_map {α β : Type} (f : α → β) (l : List α) (i : Int) : atI (l.map f) i = (atI l i).map f := by
  unfold atI
  rw [List.length_map]
  cases ixN l.length i with
  | none => rfl
  | some j => simp
end

theorem srep_dp {K : PySem.W.Frag} {S H : Hp} (h : Sub S H) (d : D) (v : V) (p : PyData) (r : srep K S H d v) (e : d.py = some p) : Dp K H v p := by
  cases d with
  | lst l =>
    obtain ⟨a, vs, rfl, hr, rs⟩ := r
    unfold D.py at e
    cases q : D.pys l with
    | none => rw [q] at e; cases e
    | some ps =>
      rw [q] at e; cases e
      exact .lst (.inl hr) (reps_dp h l vs ps rs q)
  | dic l => unfold D.py at e; cases e
  | _ => exact rep_dp h _ v p r e
theorem sisNon_iff {K : PySem.W.Frag} {S H : Hp} {d : D} {v : V} (r : srep K S H d v) : decide (v = .non) = d.isNon := by
  cases d with
  | lst l => obtain ⟨p, vs, rfl, _⟩ := r; rfl
  | dic l => obtain ⟨p, vs, rfl, _⟩ := r; rfl
  | _ => exact isNon_iff (K := K) (S := S) r
/-! ### comparisons -/
section
variable {X : Cx}
theorem opD_eqB {op : CmpOp} {g : Bool → Bool} {r : R2} (hs : ∀ x y H Q, scal x y = true → Q (.bl (g (decide (x = y)))) H → rS x y H Q) (h1 : OpR X (compareOp op) rS) {rS' : R2} (h2 : OpR X (compareOp op) rS')
    (hd : ∀ x y H Q d e, Dp X.K H x d → Dp X.K H y e → SeqAt.shaped d = true → SeqAt.shaped e = true → Q (.bl (g (PyData.eqv d e))) H → rS' x y H Q) :
    OpR X (compareOp op) (rD X.K fun x y => (D.eqB x y).bind fun c => D.b (g c)) := by
  intro pins s σ H x y v u Q I rx ry hh
  obtain ⟨en, S, Γ, R, d, e, hg, rd, re, w⟩ := hh
  replace w : ((D.eqB d e).bind fun c => D.b (g c)).wp _ _ := w
  unfold D.eqB at w
  split at w
  · rename_i i j
    rw [srep_int rd] at rx; rw [srep_int re] at ry
    refine h1 pins s σ H _ _ v u Q I rx ry (hs _ _ _ _ rfl ?_)
    have e0 : decide (V.int i = V.int j) = decide (i = j) := by simp
    rw [e0]
    exact w _ S H (Sub.refl S) hg rep_bl
  · rename_i i j
    rw [srep_bl rd] at rx; rw [srep_bl re] at ry
    refine h1 pins s σ H _ _ v u Q I rx ry (hs _ _ _ _ rfl ?_)
    have e0 : decide (V.bl i = V.bl j) = decide (i = j) := by simp
    rw [e0]
    exact w _ S H (Sub.refl S) hg rep_bl
  · rename_i i j
    rw [srep_str rd] at rx; rw [srep_str re] at ry
    refine h1 pins s σ H _ _ v u Q I rx ry (hs _ _ _ _ rfl ?_)
    have e0 : decide (V.str i = V.str j) = decide (i = j) := by simp
    rw [e0]
    exact w _ S H (Sub.refl S) hg rep_bl
  · split at w
    · split at w
      · rename_i p q h1' h2' hsh
        exact h2 pins s σ H _ _ v u Q I rx ry (hd _ _ _ _ p q (srep_dp hg.hp.sub _ _ _ rd h1') (srep_dp hg.hp.sub _ _ _ re h2') hsh.1 hsh.2 (w _ S H (Sub.refl S) hg rep_bl))
      · exact w.elim
    · exact w.elim
theorem opD_eq (hu : X.A.units + 64 < cLine) : OpR X (compareOp .Eq) (rD X.K D.eq) :=
  opD_eqB (g := fun c => c) (r := rEq) (rS := rEq) (fun x y H Q h q => ⟨h, q⟩) op_eq (op_eqD hu) fun x y H Q d e h1 h2 h3 h4 q => ⟨d, e, h1, h2, h3, h4, q⟩
theorem opD_ne (hu : X.A.units + 64 < cLine) : OpR X (compareOp .NotEq) (rD X.K D.ne) :=
  opD_eqB (g := fun c => !c) (r := rNe) (rS := rNe) (fun x y H Q h q => ⟨h, q⟩) op_ne (op_neD hu) fun x y H Q d e h1 h2 h3 h4 q => ⟨d, e, h1, h2, h3, h4, q⟩
theorem opD_isN : OpR X (compareOp .Is) (rD X.K D.isN) := by
  intro pins s σ H x y v u Q I rx ry hh
  obtain ⟨en, S, Γ, R, d, e, hg, rd, re, w⟩ := hh
  unfold D.isN at w
  split at w
  · rename_i h
    have e1 : y = .non := by
      have z := sisNon_iff re
      rw [h] at z
      exact of_decide_eq_true z
    subst e1
    refine op_isN pins s σ H _ _ v u Q I rx ry ⟨rfl, ?_⟩
    rw [sisNon_iff rd]
    exact w _ S H (Sub.refl S) hg rep_bl
  · exact w.elim
theorem opD_isnN : OpR X (compareOp .IsNot) (rD X.K D.isnN) := by
  intro pins s σ H x y v u Q I rx ry hh
  obtain ⟨en, S, Γ, R, d, e, hg, rd, re, w⟩ := hh
  unfold D.isnN at w
  split at w
  · rename_i h
    have e1 : y = .non := by
      have z := sisNon_iff re
      rw [h] at z
      exact of_decide_eq_true z
    subst e1
    refine op_notN pins s σ H _ _ v u Q I rx ry ⟨rfl, ?_⟩
    rw [sisNon_iff rd]
    exact w _ S H (Sub.refl S) hg rep_bl
  · exact w.elim
/-- in, not in -/
theorem opD_inB (hu : X.A.units + 1 < cLine) {op : CmpOp} {g : Bool → Bool} {rL rS : R2} (h1 : OpR X (compareOp op) rL)
    (k1 : ∀ x y H Q p xs, y = .ref p → (SqL X.K H p xs ∨ SqT X.K H p xs) → flatV x = true → xs.all flatV = true → Q (.bl (g (inV x xs))) H → rL x y H Q) (h2 : OpR X (compareOp op) rS)
    (k2 : ∀ i j H Q, Q (.bl (g (!(Builtin.Str.occurrences j i 0 j.length 1).isEmpty))) H → rS (.str i) (.str j) H Q)
    (h3 : OpR X (compareOp op) fun x y H Q => ∃ a o, y = .ref a ∧ DGet H a x o ∧ Q (.bl (g o.isSome)) H) :
    OpR X (compareOp op) (rD X.K fun x y => (D.inB x y).bind fun c => D.b (g c)) := by
  intro pins s σ H x y v u Q I rx ry hh
  obtain ⟨en, S, Γ, R, d, e, hg, rd, re, w⟩ := hh
  replace w : ((D.inB d e).bind fun c => D.b (g c)).wp _ _ := w
  have seq : ∀ (l : List D) (vs : List V) (p : Addr), y = .ref p → (SqL X.K H p vs ∨ SqT X.K H p vs) → reps X.K S l vs →
      (((if d.flat = true ∧ l.all D.flat = true then .ok (l.any fun y => eqV y.toV d.toV) else .stuck : Res Bool).bind fun c => D.b (g c)).wp (fun r => ∀ (z : V) (S' H' : Hp), Sub S S' → Hg X.K en S' H' Γ → rep X.K S' r z → Q z H') R) →
      wpAny (model X.prog X.w) X.A (compareOp op v u) (EP X pins σ Q) X.xe s := fun l vs p ey hs rs w => by
    split at w
    · rename_i hf
      obtain ⟨e1, e2⟩ := flat_all rs hf.2
      have ed := toV_of hf.1 (srep_flat hf.1 rd)
      refine h1 pins s σ H x y v u Q I rx ry (k1 x y H Q p vs ey hs (by rw [ed]; cases d <;> first | rfl | (have := hf.1; cases this)) e2 ?_)
      have e3 : inV x vs = l.any fun y => eqV y.toV d.toV := by
        unfold inV
        rw [e1, ed, List.any_map]; rfl
      rw [e3]
      exact w _ S H (Sub.refl S) hg rep_bl
    · exact w.elim
  unfold D.inB at w
  split at w
  · obtain ⟨p, vs, ey, hr, rs⟩ := srep_lst re
    exact seq _ vs p ey (.inl (.inl hr)) rs w
  · obtain ⟨p, vs, ey, hr, rs⟩ := rep_tup (K := X.K) (S := S) re
    exact seq _ vs p ey (.inr (hg.hp.sub.sqT hr)) rs w
  · rename_i i l
    obtain ⟨p, vs, rfl, hr, rs⟩ := srep_dic re
    have lk := repk_look (k := .inl i) rs
    rw [srep_int rd] at rx
    refine h3 pins s σ H _ _ v u Q I rx ry ⟨p, _, rfl, .inl ⟨vs, .inl i, hr, rfl, rfl⟩, ?_⟩
    cases q : D.look l (.inl i) with
    | none =>
      rw [q] at lk w
      have lk : valV vs (.inl i) = none := lk
      rw [lk]
      exact w _ S H (Sub.refl S) hg rep_bl
    | some d' =>
      rw [q] at lk w
      obtain ⟨v', lk, _⟩ := lk
      rw [lk]
      exact w _ S H (Sub.refl S) hg rep_bl
  · rename_i i l
    obtain ⟨p, vs, rfl, hr, rs⟩ := srep_dic re
    have lk := repk_look (k := .inr i) rs
    rw [srep_str rd] at rx
    refine h3 pins s σ H _ _ v u Q I rx ry ⟨p, _, rfl, .inl ⟨vs, .inr i, hr, rfl, rfl⟩, ?_⟩
    cases q : D.look l (.inr i) with
    | none =>
      rw [q] at lk w
      have lk : valV vs (.inr i) = none := lk
      rw [lk]
      exact w _ S H (Sub.refl S) hg rep_bl
    | some d' =>
      rw [q] at lk w
      obtain ⟨v', lk, _⟩ := lk
      rw [lk]
      exact w _ S H (Sub.refl S) hg rep_bl
  · rename_i i j
    rw [srep_str rd] at rx
    rw [srep_str re] at ry
    exact h2 pins s σ H _ _ v u Q I rx ry (k2 i j H Q (w _ S H (Sub.refl S) hg rep_bl))
  · exact w.elim
end
end RL

/-! RL4: rules of expressions, composed. -/
namespace RL
open PySem L2
section
variable {F : Fr} {ρ : List Sl} {Γ : Ga} {a b c : Expr} {pos : Pos} {ma mb mc : Res D} {f g : D → D → Res D}
/-- two parts, then an operation -/
theorem We.bin {S H σ Q} (ha : Er F ρ Γ a ma) (hb : Er F ρ Γ b mb) (s : StOk F.X.K F.en S H σ ρ Γ)
    (w : (ma.bind fun x => mb.bind fun y => f x y).wp (fun d => ∀ v S' H', Sub S S' → StOk F.X.K F.en S' H' σ ρ Γ → rep F.X.K S' d v → Q v H') (Xw F ρ Γ σ)) :
    We F.X a σ H fun x H1 => We F.X b σ H1 fun y H2 => rD F.X.K f x y H2 Q :=
  ha.go s w fun d x S1 H1 u1 s1 r1 w1 => hb.go s1 w1 fun e y S2 H2 u2 s2 r2 w2 =>
    ⟨F.en, S2, Γ, Xw F ρ Γ σ, d, e, s2.hg, r1 S2 H2 u2 s2.hg, r2 S2 H2 (Sub.refl S2) s2.hg, Res.wp_mono w2 (fun r k z S' H' u g rz => k z S' H' (u1.trans (u2.trans u)) (s2.mk' u g) rz) fun _ z => z⟩
theorem e_bin {op : Operator} (ho : OpR F.X (binaryOp op) (rD F.X.K f)) (ha : Er F ρ Γ a ma) (hb : Er F ρ Γ b mb) : E F ρ Γ (.BinOp a op b pos) (ma.bind fun x => mb.bind fun y => f x y) := fun S H σ Q s w =>
  We.of (pe_op ho pe_We pe_We) (We.bin ha hb s w)
theorem e_cmp {op : CmpOp} (ho : OpR F.X (compareOp op) (rD F.X.K f)) (ha : Er F ρ Γ a ma) (hb : Er F ρ Γ b mb) (hm : behindInMarks op b = false := by first | exact nomark _ | rfl) :
    E F ρ Γ (.Compare a [op] [b] pos) (ma.bind fun x => mb.bind fun y => f x y) := fun S H σ Q s w =>
  We.of (pe_cmpR ho pe_We pe_We hm) (We.bin ha hb s w)
/-- a bool told -/
def asB (d : D) : Res Bool := match d with
  | .bl c => .ok c
  | _ => .stuck
theorem wp_asB {m : Res D} {P : Bool → Prop} {R : Str → Prop} (h : (m.bind asB).wp P R) : m.wp (fun d => ∃ c, d = .bl c ∧ P c) R := by
  cases m with
  | ok d => cases d <;> first | exact ⟨_, rfl, h⟩ | exact h.elim
  | exc k => exact h
  | stuck => exact h
theorem t_cmp {op : CmpOp} (ho : OpR F.X (compareOp op) (rD F.X.K f)) (ha : Er F ρ Γ a ma) (hb : Er F ρ Γ b mb) (hm : behindInMarks op b = false := by first | exact nomark _ | rfl) :
    T F ρ Γ (.Compare a [op] [b] pos) ((ma.bind fun x => mb.bind fun y => f x y).bind asB) := fun S H σ Q s w =>
  Wt.of (pt_cmpR ho pe_We pe_We hm) (We.bin ha hb s (Res.wp_mono (wp_asB w) (fun d ⟨k, e, h⟩ v S' H' u s' r => by
    subst e
    exact ⟨k, rep_bl_eq r, h S' H' u s'⟩) fun _ z => z))
/-- a value that is a bool, as a test -/
theorem t_val {e : Expr} {m : Res D} (h : E F ρ Γ e m) (he : ∀ whole, isTrue e F.X.env whole = (do let v ← whole; standAt e.pos; holding [v] (truthy v)) := by intro _; rfl) : T F ρ Γ e (m.bind asB) := fun S H σ Q s w =>
  Wt.of (pt_val pe_We he) (h S H σ _ s (Res.wp_mono (wp_asB w) (fun d ⟨k, e, h⟩ v S' H' u s' r => by
    subst e
    exact ⟨k, rep_bl_eq r, h S' H' u s'⟩) fun _ z => z))
theorem t_not {e : Expr} {m : Res Bool} (h : T F ρ Γ e m) : T F ρ Γ (.UnaryOp .Not e pos) (m.bind fun c => .ok (!c)) := fun S H σ Q s w =>
  Wt.of (pt_not pt_Wt) (h.go s w fun c S' H' u s' k => k S' H' u s')
theorem t_w {e : Expr} {m : Res Bool} (h : Tw F ρ Γ e m) : T F ρ Γ e m := fun S H σ Q s w => Wt.of (pw_Ww.pt) (h S H σ Q s w)
theorem tw_and1 {e : Expr} {m : Res Bool} (h : T F ρ Γ e m) : Tw F ρ Γ (.BoolOp .And [e] pos) m := fun S H σ Q s w => Ww.of (pw_and1 pt_Wt) (h S H σ Q s w)
theorem tw_or1 {e : Expr} {m : Res Bool} (h : T F ρ Γ e m) : Tw F ρ Γ (.BoolOp .Or [e] pos) m := fun S H σ Q s w => Ww.of (pw_or1 pt_Wt) (h S H σ Q s w)
theorem tw_and {e : Expr} {rest : List Expr} {m n : Res Bool} (h : T F ρ Γ e m) (k : Tw F ρ Γ (.BoolOp .And (b :: rest) pos) n) : Tw F ρ Γ (.BoolOp .And (e :: b :: rest) pos) (m.bind fun c => if c = true then n else .ok false) := fun S H σ Q s w =>
  Ww.of (pw_and pt_Wt pw_Ww) (h.go s w fun c S1 H1 u1 s1 w1 => by
    cases c with
    | true => exact k S1 H1 σ Q s1 (Res.wp_mono w1 (fun d z S' H' u s' => z S' H' (u1.trans u) s') fun _ z => z)
    | false => exact w1 S1 H1 u1 s1)
theorem tw_or {e : Expr} {rest : List Expr} {m n : Res Bool} (h : T F ρ Γ e m) (k : Tw F ρ Γ (.BoolOp .Or (b :: rest) pos) n) : Tw F ρ Γ (.BoolOp .Or (e :: b :: rest) pos) (m.bind fun c => if c = true then .ok true else n) := fun S H σ Q s w =>
  Ww.of (pw_or pt_Wt pw_Ww) (h.go s w fun c S1 H1 u1 s1 w1 => by
    cases c with
    | false => exact k S1 H1 σ Q s1 (Res.wp_mono w1 (fun d z S' H' u s' => z S' H' (u1.trans u) s') fun _ z => z)
    | true => exact w1 S1 H1 u1 s1)
/-- .. as values -/
theorem e_one {op} (h : E F ρ Γ a ma) : E F ρ Γ (.BoolOp op [a] pos) ma := fun S H σ Q s w => We.of (pe_one pe_We) (h S H σ Q s w)
theorem We.asB {m : Res D} {f : Bool → Res D} {S H σ} {Q : VK} {P : D → Prop} (h : E F ρ Γ a m) (s : StOk F.X.K F.en S H σ ρ Γ) (w : ((m.bind RL.asB).bind f).wp P (Xw F ρ Γ σ))
    (k : ∀ c S' H', Sub S S' → StOk F.X.K F.en S' H' σ ρ Γ → (f c).wp P (Xw F ρ Γ σ) → Q (.bl c) H') : We F.X a σ H Q :=
  h S H σ Q s (Res.wp_mono (wp_asB (Res.wp_bind w)) (fun d ⟨c, e, z⟩ v S' H' u s' r => by
    subst e
    rw [rep_bl_eq r]
    exact k c S' H' u s' z) fun _ z => z)
theorem e_and {rest : List Expr} (ha : E F ρ Γ a ma) (hb : E F ρ Γ (.BoolOp .And (b :: rest) pos) mb) : E F ρ Γ (.BoolOp .And (a :: b :: rest) pos) ((ma.bind asB).bind fun c => if c = true then mb else .ok (.bl false)) := fun S H σ Q s w =>
  We.of (pe_and pe_We pe_We) (We.asB ha s w fun c S1 H1 u1 s1 w1 => by
    cases c with
    | true => exact ⟨true, rfl, hb S1 H1 σ Q s1 (Res.wp_mono w1 (fun d z v S' H' u s' r => z v S' H' (u1.trans u) s' r) fun _ z => z)⟩
    | false => exact ⟨false, rfl, w1 _ S1 H1 u1 s1 rep_bl⟩)
theorem e_or {rest : List Expr} (ha : E F ρ Γ a ma) (hb : E F ρ Γ (.BoolOp .Or (b :: rest) pos) mb) : E F ρ Γ (.BoolOp .Or (a :: b :: rest) pos) ((ma.bind asB).bind fun c => if c = true then .ok (.bl true) else mb) := fun S H σ Q s w =>
  We.of (pe_or pe_We pe_We) (We.asB ha s w fun c S1 H1 u1 s1 w1 => by
    cases c with
    | false => exact ⟨false, rfl, hb S1 H1 σ Q s1 (Res.wp_mono w1 (fun d z v S' H' u s' r => z v S' H' (u1.trans u) s' r) fun _ z => z)⟩
    | true => exact ⟨true, rfl, w1 _ S1 H1 u1 s1 rep_bl⟩)
theorem e_not (ha : E F ρ Γ a ma) : E F ρ Γ (.UnaryOp .Not a pos) ((ma.bind asB).bind fun c => .ok (.bl (!c))) := fun S H σ Q s w =>
  We.of (pe_not pe_We) (We.asB ha s w fun c S1 H1 u1 s1 w1 => ⟨c, rfl, w1 _ S1 H1 u1 s1 rep_bl⟩)
theorem e_neg (ha : E F ρ Γ a ma) : E F ρ Γ (.UnaryOp .USub a pos) (ma.bind D.neg) := fun S H σ Q s w =>
  We.of (pe_un un_neg pe_We) (ha.go s w fun d v S1 H1 u1 s1 r1 w1 => by
    unfold D.neg at w1; split at w1
    · exact ⟨_, rep_int_eq r1, w1 _ S1 H1 u1 s1 rep_int⟩
    · exact w1.elim)
theorem e_inv (ha : E F ρ Γ a ma) : E F ρ Γ (.UnaryOp .Invert a pos) (ma.bind D.inv) := fun S H σ Q s w =>
  We.of (pe_un un_inv pe_We) (ha.go s w fun d v S1 H1 u1 s1 r1 w1 => by
    unfold D.inv at w1; split at w1
    · exact ⟨_, rep_int_eq r1, w1 _ S1 H1 u1 s1 rep_int⟩
    · exact w1.elim)
/-- a < b < c -/
theorem e_chain {op op' : CmpOp} (ho : OpR F.X (compareOp op) (rD F.X.K f)) (ho' : OpR F.X (compareOp op') (rD F.X.K g)) (ha : Er F ρ Γ a ma) (hb : Er F ρ Γ b mb) (hc : Er F ρ Γ c mc)
    (hm : lastMarks [op, op'] [b, c] = false := by with_unfolding_all rfl) :
    E F ρ Γ (.Compare a [op, op'] [b, c] pos) (ma.bind fun x => mb.bind fun y => ((f x y).bind asB).bind fun k => if k = true then mc.bind fun z => g y z else .ok (.bl false)) := fun S H σ Q s w =>
  We.of (pe_chain ho ho' pe_We pe_We pe_We hm) (ha.go s w fun d x S1 H1 u1 s1 r1 w1 => hb.go s1 w1 fun e y S2 H2 u2 s2 r2 w2 =>
    ⟨F.en, S2, Γ, Xw F ρ Γ σ, d, e, s2.hg, r1 S2 H2 u2 s2.hg, r2 S2 H2 (Sub.refl S2) s2.hg, Res.wp_mono (wp_asB (Res.wp_bind w2)) (fun r ⟨k, ek, w3⟩ z S3 H3 u3 g3 rz => by
      subst ek
      refine ⟨k, rep_bl_eq rz, ?_⟩
      have s3 := s2.mk' u3 g3
      cases k with
      | true => exact hc.go s3 w3 fun e' y' S4 H4 u4 s4 r4 w4 => ⟨F.en, S4, Γ, Xw F ρ Γ σ, e, e', s4.hg, r2 S4 H4 (u3.trans u4) s4.hg, r4 S4 H4 (Sub.refl S4) s4.hg,
          Res.wp_mono w4 (fun r k z S' H' u g rz => k z S' H' (u1.trans (u2.trans (u3.trans (u4.trans u)))) (s4.mk' u g) rz) fun _ z => z⟩
      | false => exact w3 _ S3 H3 (u1.trans (u2.trans u3)) s3 rep_bl) fun _ z => z⟩)

/-! ### arguments, displays -/
theorem ea_nil : Ea F ρ Γ [] (.ok []) := fun S H σ Q s w => Wa.of pa_nil (w [] S H (Sub.refl S) s reps_nil)
theorem ea_cons {es : List Expr} {ms : Res (List D)} (ha : E F ρ Γ a ma) (hr : Ea F ρ Γ es ms) (hs : starEach (a :: es) F.X.env = (false, eval a F.X.env) :: starEach es F.X.env := by rfl) :
    Ea F ρ Γ (a :: es) (ma.bind fun x => ms.bind fun xs => .ok (x :: xs)) := fun S H σ Q s w =>
  Wa.of (pa_cons pe_We pa_Wa hs) (ha.go s w fun d v S1 H1 u1 s1 r1 w1 => hr.go s1 w1 fun ds vs S2 H2 u2 s2 r2 w2 => w2 (v :: vs) S2 H2 (u1.trans u2) s2 (reps_cons (rep_mono u2 _ _ r1) r2))
def mkTup (l : List D) : Res D := if l.length ≤ sizeLine then .ok (.tup l) else .stuck
def mkLst (l : List D) : Res D := if l.length ≤ sizeLine then .ok (.lst l) else .stuck
theorem e_tup {es : List Expr} {ms : Res (List D)} {x1} (h : Ea F ρ Γ es ms) : E F ρ Γ (.Tuple es x1 pos) (ms.bind mkTup) := fun S H σ Q s w =>
  We.of (pe_tup pa_Wa) (h.go s w fun ds vs S1 H1 u1 s1 r1 w1 => by
    unfold mkTup at w1; split at w1
    · rename_i hl
      refine ⟨by rw [reps_len r1]; exact hl, fun p hp => ?_⟩
      have sp := s1.hg.hp.sub.none hp
      exact w1 _ _ _ (u1.trans (Sub.ext S1 sp)) (s1.mk' (Sub.ext S1 sp) (s1.hg.share hp)) (rep_tup_new sp r1)
    · exact w1.elim)
theorem e_lst {es : List Expr} {ms : Res (List D)} (h : Ea F ρ Γ es ms) : E F ρ Γ (.List es pos) (ms.bind mkLst) := fun S H σ Q s w =>
  We.of (pe_lst pa_Wa) (h.go s w fun ds vs S1 H1 u1 s1 r1 w1 => by
    unfold mkLst at w1; split at w1
    · rename_i hl
      refine ⟨by rw [reps_len r1]; exact hl, fun p hp => ?_⟩
      have sp := s1.hg.hp.sub.none hp
      exact w1 _ _ _ (u1.trans (Sub.ext S1 sp)) (s1.mk' (Sub.ext S1 sp) (s1.hg.share hp)) (rep_lst_new sp r1)
    · exact w1.elim)
end

/-! ### built-ins called by their names -/
def sreps (K : PySem.W.Frag) (S H : Hp) : List D → List V → Prop
  | [], vs => vs = []
  | d :: l, vs => ∃ v r, vs = v :: r ∧ srep K S H d v ∧ sreps K S H l r
/-- a built-in's call, told by f -/
def rC (K : PySem.W.Frag) (f : List D → Res D) : List V → Hp → VK → Prop := fun xs H Q => ∃ en S Γ R ds, Hg K en S H Γ ∧ sreps K S H ds xs ∧
  (f ds).wp (fun r => ∀ z S' H', Sub S S' → Hg K en S' H' Γ → rep K S' r z → Q z H') R
/-- arguments that are read at once -/
def Ear (F : Fr) (ρ : List Sl) (Γ : Ga) (es : List Expr) (m : Res (List D)) : Prop := ∀ S H σ Q, StOk F.X.K F.en S H σ ρ Γ →
  m.wp (fun d => ∀ v S' H', Sub S S' → StOk F.X.K F.en S' H' σ ρ Γ → (∀ S'' H'', Sub S' S'' → Hg F.X.K F.en S'' H'' Γ → sreps F.X.K S'' H'' d v) → Q v H') (Xw F ρ Γ σ) → Wa F.X es σ H Q
section
variable {F : Fr} {ρ : List Sl} {Γ : Ga} {a b c : Expr} {pos p : Pos} {ma mb mc : Res D} {es : List Expr} {ms : Res (List D)} {f : List D → Res D} {x : Str}
theorem Ear.go (h : Ear F ρ Γ es ms) {α : Type} {f : List D → Res α} {S H σ Q} {P : α → Prop} (s : StOk F.X.K F.en S H σ ρ Γ) (w : (ms.bind f).wp P (Xw F ρ Γ σ))
    (k : ∀ d v S' H', Sub S S' → StOk F.X.K F.en S' H' σ ρ Γ → (∀ S'' H'', Sub S' S'' → Hg F.X.K F.en S'' H'' Γ → sreps F.X.K S'' H'' d v) → (f d).wp P (Xw F ρ Γ σ) → Q v H') : Wa F.X es σ H Q :=
  h S H σ Q s (Res.wp_mono (Res.wp_bind w) (fun d z v S' H' u s' r => k d v S' H' u s' r z) fun _ z => z)
theorem ear_nil : Ear F ρ Γ [] (.ok []) := fun S H σ Q s w => Wa.of pa_nil (w [] S H (Sub.refl S) s fun _ _ _ _ => rfl)
theorem ear_cons (ha : Er F ρ Γ a ma) (hr : Ear F ρ Γ es ms) (hs : starEach (a :: es) F.X.env = (false, eval a F.X.env) :: starEach es F.X.env := by rfl) :
    Ear F ρ Γ (a :: es) (ma.bind fun x => ms.bind fun xs => .ok (x :: xs)) := fun S H σ Q s w =>
  Wa.of (pa_cons pe_We pa_Wa hs) (ha.go s w fun d v S1 H1 u1 s1 r1 w1 => hr.go s1 w1 fun ds vs S2 H2 u2 s2 r2 w2 => w2 (v :: vs) S2 H2 (u1.trans u2) s2 fun S3 H3 u3 g3 => ⟨v, vs, rfl, r1 S3 H3 (u2.trans u3) g3, r2 S3 H3 u3 g3⟩)
theorem Wa.call {S H σ Q} (h : Ear F ρ Γ es ms) (s : StOk F.X.K F.en S H σ ρ Γ)
    (w : (ms.bind f).wp (fun d => ∀ v S' H', Sub S S' → StOk F.X.K F.en S' H' σ ρ Γ → rep F.X.K S' d v → Q v H') (Xw F ρ Γ σ)) :
    Wa F.X es σ H fun vs H1 => rC F.X.K f vs H1 Q :=
  h.go s w fun ds vs S1 H1 u1 s1 r1 w1 => ⟨F.en, S1, Γ, Xw F ρ Γ σ, ds, s1.hg, r1 S1 H1 (Sub.refl S1) s1.hg, Res.wp_mono w1 (fun r k z S' H' u g rz => k z S' H' (u1.trans u) (s1.mk' u g) rz) fun _ z => z⟩
theorem e_callB {id : String} (hc : CallR F.X (.builtin id) (rC F.X.K f)) (hm : F.X.mg x = none) (h : Ear F ρ Γ (a :: es) ms) (hv : bootBuiltins x = some (.builtin id) := by decide +kernel) (hg : Gl F.X x := by rfl)
    (hn : x ≠ "__name__" := by decide) (hdb : (x == ("__debug__" : Str)) = false := by decide)
    (he : starEach (a :: es) F.X.env = (false, eval a F.X.env) :: starEach es F.X.env := by rfl) (hpl : (backTo pos (starEach es F.X.env)).any (·.1) = false := by rfl) : E F ρ Γ (.Call (.Name x p) (a :: es) [] pos) (ms.bind f) := fun S H σ Q s w =>
  We.of (pe_callB hc hg hm hv pa_Wa hn hdb he hpl) (Wa.call h s w)
theorem e_callT {id : String} (hc : CallR F.X (.type id) (rC F.X.K f)) (hm : F.X.mg x = none) (h : Ear F ρ Γ (a :: es) ms) (hv : bootBuiltins x = some (.type id) := by decide +kernel) (hg : Gl F.X x := by rfl)
    (hn : x ≠ "__name__" := by decide) (hdb : (x == ("__debug__" : Str)) = false := by decide)
    (he : starEach (a :: es) F.X.env = (false, eval a F.X.env) :: starEach es F.X.env := by rfl) (hpl : (backTo pos (starEach es F.X.env)).any (·.1) = false := by rfl) : E F ρ Γ (.Call (.Name x p) (a :: es) [] pos) (ms.bind f) := fun S H σ Q s w =>
  We.of (pe_callTy hc hg hm hv pa_Wa hn hdb he hpl) (Wa.call h s w)
end
end RL

/-! RL5: subscripts, slices, calls, methods, instances. -/
namespace RL
open PySem L2
section
variable {X : Cx}
theorem ix_dict (hu : X.A.units + 1 < cLine) : IxR X (fun x y H Q => ∃ a v, x = .ref a ∧ DGet H a y (some v) ∧ Q v H) := by
  intro value slice pins s σ H x y v u Q I rx ry h hs
  obtain ⟨a, z, rfl, g, q⟩ := h
  obtain rfl : v = Value.ref a := rx
  exact PyProof.Rows.tail_any (dict_typeIs I g) PySem.F.slot_dict_getitem.lookup (d_getItem hu I g ry fun w' s3 I3 rw' => ⟨z, H, I3, rw', q⟩) hs
theorem wp_ofOpt {α : Type} {o : Option α} {P : α → Prop} {R : Str → Prop} (h : (Res.ofOpt o).wp P R) : ∃ a, o = some a ∧ P a := by
  cases o with
  | none => exact h.elim
  | some a => exact ⟨a, rfl, h⟩
theorem ixD (hu : X.A.units + 1 < cLine) : IxR X (rD X.K D.ix) := by
  intro value slice pins s σ H x y v u Q I rx ry hh hs
  obtain ⟨en, S, Γ, R, d, e, hg, rd, re, w⟩ := hh
  unfold D.ix at w
  split at w
  · obtain ⟨r, e1, w⟩ := wp_ofOpt w
    obtain ⟨p, vs, rfl, hr, rs⟩ := srep_lst rd
    rw [srep_int re] at ry
    obtain ⟨z, e2, rz⟩ := atI_rep rs e1
    exact ix_list value slice pins s σ H _ _ v u Q I rx ry ⟨p, vs, _, z, rfl, rfl, .inl hr, e2, w z S H (Sub.refl S) hg rz⟩ hs
  · obtain ⟨r, e1, w⟩ := wp_ofOpt w
    obtain ⟨p, vs, rfl, hr, rs⟩ := rep_tup (K := X.K) (S := S) rd
    rw [srep_int re] at ry
    obtain ⟨z, e2, rz⟩ := atI_rep rs e1
    exact ix_tup value slice pins s σ H _ _ v u Q I rx ry ⟨p, vs, _, z, rfl, rfl, hg.hp.sub.sqT hr, e2, w z S H (Sub.refl S) hg rz⟩ hs
  · rename_i ns i
    obtain ⟨r, e1, w⟩ := wp_ofOpt w
    obtain ⟨p, rfl, hr⟩ := rep_scr (K := X.K) (S := S) rd
    rw [srep_int re] at ry
    cases q : atI ns i with
    | none => rw [q] at e1; cases e1
    | some n =>
      rw [q] at e1; cases e1
      exact ix_list value slice pins s σ H _ _ v u Q I rx ry ⟨p, _, _, V.int n, rfl, rfl, hg.hp.sub.sqL hr, by rw [atI_map, q]; rfl, w _ S H (Sub.refl S) hg rep_int⟩ hs
  · rename_i z i
    split at w
    · rename_i hz
      obtain ⟨r, e1, w⟩ := wp_ofOpt w
      rw [srep_str rd] at rx
      rw [srep_int re] at ry
      cases q : atI z.cps.toList i with
      | none => rw [q] at e1; cases e1
      | some n =>
        rw [q] at e1; cases e1
        exact ix_str value slice pins s σ H _ _ v u Q I rx ry ⟨z, i, n, rfl, rfl, hz, q, w _ S H (Sub.refl S) hg rep_str⟩ hs
    · exact w.elim
  · rename_i l i
    obtain ⟨r, e1, w⟩ := wp_ofOpt w
    obtain ⟨p, vs, rfl, hr, rs⟩ := srep_dic rd
    have lk := repk_look (k := .inl i) rs
    rw [e1] at lk
    obtain ⟨z, lk, rz⟩ := lk
    rw [srep_int re] at ry
    exact ix_dict hu value slice pins s σ H _ _ v u Q I rx ry ⟨p, z, rfl, .inl ⟨vs, .inl i, hr, rfl, lk.symm⟩, w _ S H (Sub.refl S) hg rz⟩ hs
  · rename_i l i
    obtain ⟨r, e1, w⟩ := wp_ofOpt w
    obtain ⟨p, vs, rfl, hr, rs⟩ := srep_dic rd
    have lk := repk_look (k := .inr i) rs
    rw [e1] at lk
    obtain ⟨z, lk, rz⟩ := lk
    rw [srep_str re] at ry
    exact ix_dict hu value slice pins s σ H _ _ v u Q I rx ry ⟨p, z, rfl, .inl ⟨vs, .inr i, hr, rfl, lk.symm⟩, w _ S H (Sub.refl S) hg rz⟩ hs
  · exact w.elim
end
section
variable {F : Fr} {ρ : List Sl} {Γ : Ga} {a b c : Expr} {pos p2 : Pos} {ma mb mc : Res D}
theorem e_ix (hu : F.X.A.units + 1 < cLine) (ha : Er F ρ Γ a ma) (hb : Er F ρ Γ b mb) (hs : PlainIx b := by exact fun _ _ => rfl) : E F ρ Γ (.Subscript a b pos) (ma.bind fun x => mb.bind fun y => D.ix x y) := fun S H σ Q s w =>
  We.of (pe_ix (ixD hu) pe_We pe_We hs) (We.bin ha hb s w)

/-! slices -/
structure Wo (X : Cx) (e : Option Expr) (σ : St) (H : Hp) (Q : Option Int → Hp → Prop) : Prop where
  run : ∀ pins s, Inv X pins σ H s → wpAny (model X.prog X.w) X.A (evalPart e X.env) (fun v s' => ∃ o H', Inv X pins σ H' s' ∧ IsPart v o ∧ Q o H') X.xe s
theorem po_Wo {X : Cx} {e : Option Expr} : PO X e (Wo X e) := ⟨fun pins s σ H Q I h => h.run pins s I⟩
theorem Wo.of {X : Cx} {e : Option Expr} {t : TO} {σ : St} {H : Hp} {Q : Option Int → Hp → Prop} (h : PO X e t) (q : t σ H Q) : Wo X e σ H Q := ⟨fun pins s I => h.run pins s σ H Q I q⟩
/-- a part of a slice -/
def Eo (F : Fr) (ρ : List Sl) (Γ : Ga) (e : Option Expr) (m : Res (Option Int)) : Prop := ∀ S H σ Q, StOk F.X.K F.en S H σ ρ Γ →
  m.wp (fun o => ∀ S' H', Sub S S' → StOk F.X.K F.en S' H' σ ρ Γ → Q o H') (Xw F ρ Γ σ) → Wo F.X e σ H Q
theorem Eo.go {e : Option Expr} {m : Res (Option Int)} (h : Eo F ρ Γ e m) {α : Type} {f : Option Int → Res α} {S H σ Q} {P : α → Prop} (s : StOk F.X.K F.en S H σ ρ Γ) (w : (m.bind f).wp P (Xw F ρ Γ σ))
    (k : ∀ o S' H', Sub S S' → StOk F.X.K F.en S' H' σ ρ Γ → (f o).wp P (Xw F ρ Γ σ) → Q o H') : Wo F.X e σ H Q :=
  h S H σ Q s (Res.wp_mono (Res.wp_bind w) (fun d z S' H' u s' => k d S' H' u s' z) fun _ z => z)
theorem eo_none : Eo F ρ Γ none (.ok none) := fun S H σ Q s w => Wo.of po_none (w S H (Sub.refl S) s)
def asI (d : D) : Res (Option Int) := match d with
  | .int i => .ok (some i)
  | _ => .stuck
theorem eo_some (ha : E F ρ Γ a ma) : Eo F ρ Γ (some a) (ma.bind asI) := fun S H σ Q s w =>
  Wo.of (po_some pe_We) (ha.go s w fun d v S1 H1 u1 s1 r1 w1 => by
    unfold asI at w1; split at w1
    · exact ⟨_, rep_int_eq r1, w1 S1 H1 u1 s1⟩
    · exact w1.elim)
theorem slD {X : Cx} : SlR X (fun x lo hi H Q => ∃ en S Γ R d, Hg X.K en S H Γ ∧ srep X.K S H d x ∧ (D.sliceI d lo hi).wp (fun r => ∀ z S' H', Sub S S' → Hg X.K en S' H' Γ → rep X.K S' r z → Q z H') R) := by
  intro pins s σ H x v vl vu lo hi sl Q I rx hs pl pu h
  obtain ⟨en, S, Γ, R, d, hg, rd, w⟩ := h
  unfold D.sliceI at w
  split at w
  · obtain ⟨p, vs, rfl, hr, rs⟩ := srep_lst rd
    refine sl_list pins s σ H _ v vl vu lo hi sl Q I rx hs pl pu ⟨p, vs, rfl, .inl hr, fun q hq => ?_⟩
    have sp := hg.hp.sub.none hq
    exact w _ _ _ (Sub.ext S sp) (hg.share hq) (rep_lst_new sp (reps_cut rs lo hi))
  · split at w
    · rename_i hn
      obtain ⟨p, vs, rfl, hr, rs⟩ := rep_tup (K := X.K) (S := S) rd
      refine sl_tup pins s σ H _ v vl vu lo hi sl Q I rx hs pl pu ⟨p, vs, rfl, hg.hp.sub.sqT hr, by rw [reps_len rs]; exact hn, fun q hq => ?_⟩
      have sp := hg.hp.sub.none hq
      exact w _ _ _ (Sub.ext S sp) (hg.share hq) (rep_tup_new sp (reps_cut rs lo hi))
    · exact w.elim
  · obtain ⟨p, rfl, hr⟩ := rep_scr (K := X.K) (S := S) rd
    refine sl_list pins s σ H _ v vl vu lo hi sl Q I rx hs pl pu ⟨p, _, rfl, hg.hp.sub.sqL hr, fun q hq => ?_⟩
    have sp := hg.hp.sub.none hq
    have e : ∀ (ns : List Int), cutV (ns.map V.int) lo hi = (D.cut ns lo hi).map V.int := fun ns => cut_V _ _ _ _
    exact w _ _ _ (Sub.ext S sp) (hg.share hq) (rep_lst_new sp (by rw [e]; exact reps_ints))
  · split at w
    · rename_i hz
      rw [srep_str rd] at rx
      exact sl_str pins s σ H _ v vl vu lo hi sl Q I rx hs pl pu ⟨_, rfl, hz, w _ S H (Sub.refl S) hg rep_str⟩
    · exact w.elim
  · exact w.elim
theorem e_slice {lo hi : Option Expr} {ml mh : Res (Option Int)} (ha : Er F ρ Γ a ma) (hl : Eo F ρ Γ lo ml) (hh : Eo F ρ Γ hi mh) :
    E F ρ Γ (.Subscript a (.Slice lo hi none p2) pos) (ma.bind fun x => ml.bind fun l => mh.bind fun h => D.sliceI x l h) := fun S H σ Q s w =>
  We.of (pe_slice slD pe_We po_Wo po_Wo) (ha.go s w fun d x S1 H1 u1 s1 r1 w1 => hl.go s1 w1 fun l S2 H2 u2 s2 w2 => hh.go s2 w2 fun h S3 H3 u3 s3 w3 =>
    ⟨F.en, S3, Γ, Xw F ρ Γ σ, d, s3.hg, r1 S3 H3 (u2.trans u3) s3.hg, Res.wp_mono w3 (fun r k z S' H' u g rz => k z S' H' (u1.trans (u2.trans (u3.trans u))) (s3.mk' u g) rz) fun _ z => z⟩)
/-! a slice with a step, of a list -/
def D.pick {α : Type} (l : List α) (lo hi st : Option Int) : List α := (sliceRange (sliceBounds lo hi st l.length).1 (sliceBounds lo hi st l.length).2.1 (sliceBounds lo hi st l.length).2.2).filterMap (l[·]?)
def D.slice3 (c : D) (lo hi st : Option Int) : Res D := if st = some 0 then .stuck else match c with
  | .lst l => if (D.pick l lo hi st).length ≤ sizeLine then .ok (.lst (D.pick l lo hi st)) else .stuck
  | .scr l => if (D.pick l lo hi st).length ≤ sizeLine then .ok (.lst ((D.pick l lo hi st).map D.int)) else .stuck
  | _ => .stuck
theorem pick_map {α β : Type} (f : α → β) (l : List α) (lo hi st : Option Int) : D.pick (l.map f) lo hi st = (D.pick l lo hi st).map f := by
  unfold D.pick
  rw [List.length_map, List.map_filterMap]
  congr 1
  funext i
  rw [List.getElem?_map]
theorem reps_fm {K : PySem.W.Frag} {S : Hp} {l : List D} {vs : List V} (r : reps K S l vs) : ∀ is : List Nat, reps K S (is.filterMap (l[·]?)) (is.filterMap (vs[·]?))
  | [] => reps_nil
  | i :: is => by
    cases q : l[i]? with
    | none =>
      have q2 : vs[i]? = none := by
        rw [List.getElem?_eq_none_iff] at q ⊢
        rw [reps_len r]; exact q
      rw [List.filterMap_cons, List.filterMap_cons]
      simp only [q, q2]
      exact reps_fm r is
    | some d =>
      obtain ⟨v, q2, rv⟩ := reps_get r q
      rw [List.filterMap_cons, List.filterMap_cons]
      simp only [q, q2]
      exact reps_cons rv (reps_fm r is)
theorem vals_fm {vs : List V} {us : List Value} (r : Vals vs us) : ∀ is : List Nat, Vals (is.filterMap (vs[·]?)) (is.filterMap (us[·]?))
  | [] => .nil
  | i :: is => by
    cases q : vs[i]? with
    | none =>
      have q2 : us[i]? = none := r.none_of q
      rw [List.filterMap_cons, List.filterMap_cons]
      simp only [q, q2]
      exact vals_fm r is
    | some d =>
      obtain ⟨v, q2, rv⟩ := r.get q
      rw [List.filterMap_cons, List.filterMap_cons]
      simp only [q, q2]
      exact .cons rv (vals_fm r is)
theorem pe_slice3 {X : Cx} {e : Expr} {te : TE} {lo hi : Option Expr} {st : Expr} {tl th tk : TO} (he : PE X e te) (hl : PO X lo tl) (hu : PO X hi th) (hk : PO X (some st) tk) : PE X (.Subscript e (.Slice lo hi (some st) p2) pos)
    (fun σ H Q => te σ H fun x H1 => tl σ H1 fun l H2 => th σ H2 fun u H3 => tk σ H3 fun k H4 => ∃ a xs, x = .ref a ∧ SqL X.K H4 a xs ∧ k ≠ some 0 ∧ (D.pick xs l u k).length ≤ sizeLine ∧ ∀ p, H4 p = none → Q (.ref p) (upd H4 p (.lst (D.pick xs l u k)))) := by
  refine ⟨fun pins s σ H Q I h => ?_⟩
  refine PyProof.Rows.Subscript_ (thn (he.run pins s σ H _ I h) fun v s1 ⟨x, H1, I1, r1, q1⟩ => ?_)
  refine wpAny_Slice (thn (hl.run pins s1 σ H1 _ I1 q1) fun vl s2 ⟨l, H2, I2, pl, q2⟩ => thn (hu.run pins s2 σ H2 _ I2 q2) fun vu s3 ⟨u, H3, I3, pu, q3⟩ => thn (hk.run pins s3 σ H3 _ I3 q3) fun vk s4 ⟨k, H4, I4, pk, q4⟩ => ?_)
  obtain ⟨a, xs, rfl, hx, k0, hz, q5⟩ := q4
  obtain rfl : v = Value.ref a := r1
  have I5 : Inv X pins σ H4 { s4 with heap := s4.heap.push { cls := .type "slice", data := .fields #[vl, vu, vk] } } := I4.kept (t' := s4.toks) fun b ob q => Heap.get?_push_of_some _ q
  obtain ⟨its, r, ht, hz0⟩ := I5.list hx
  have hlen := r.length
  show wpAny (model X.prog X.w) X.A (PyProof.Rows.subscriptTail e (.Slice lo hi (some st) p2) (.ref a) (.ref s4.heap.objs.size)) (EP X pins σ Q) X.xe { s4 with heap := s4.heap.push { cls := .type "slice", data := .fields #[vl, vu, vk] } }
  refine PyProof.Rows.tail_any (ops := [.ref a, .ref s4.heap.objs.size]) ht.isList.typeIs slot_list_getitem.lookup ?_ (by with_unfolding_all rfl)
  refine wpAny_getItem_list_slice ht.isList (Heap.IsSliceOf.new ..) pl pu pk k0 ?_ (by rw [List.size_toArray] <;> omega)
  have e1 : slicePick its.toArray l u k = (D.pick its l u k).toArray := by
    unfold slicePick D.pick
    simp
  rw [e1]
  have e2 : Vals (D.pick xs l u k) (D.pick its l u k) := by
    unfold D.pick
    rw [hlen]
    exact vals_fm r _
  refine ⟨.ref _, _, I5.laid (t' := s4.toks) (o := .lst (D.pick xs l u k)) (fun b ob q => Heap.get?_push_of_some _ q) (Nat.le_refl _) ?_, rfl, q5 _ (I5.hok.fresh (Nat.le_refl _))⟩
  exact ⟨hz, _, 0, e2, Heap.get?_push_size _ rfl⟩
theorem e_slice3 {lo hi : Option Expr} {st : Expr} {ml mh mk : Res (Option Int)} (ha : Er F ρ Γ a ma) (hl : Eo F ρ Γ lo ml) (hh : Eo F ρ Γ hi mh) (hk : Eo F ρ Γ (some st) mk) :
    E F ρ Γ (.Subscript a (.Slice lo hi (some st) p2) pos) (ma.bind fun x => ml.bind fun l => mh.bind fun h => mk.bind fun k => D.slice3 x l h k) := fun S H σ Q s w =>
  We.of (pe_slice3 pe_We po_Wo po_Wo po_Wo) (ha.go s w fun d x S1 H1 u1 s1 r1 w1 => hl.go s1 w1 fun l S2 H2 u2 s2 w2 => hh.go s2 w2 fun h S3 H3 u3 s3 w3 => hk.go s3 w3 fun k S4 H4 u4 s4 w4 => by
    have r4 := r1 S4 H4 (u2.trans (u3.trans u4)) s4.hg
    have u0 := u1.trans (u2.trans (u3.trans u4))
    unfold D.slice3 at w4
    split at w4
    · exact w4.elim
    · rename_i k0
      split at w4
      · split at w4
        · rename_i hz
          obtain ⟨q, vs, rfl, hr, rs⟩ := srep_lst r4
          have rp := reps_fm rs (sliceRange (sliceBounds l h k vs.length).1 (sliceBounds l h k vs.length).2.1 (sliceBounds l h k vs.length).2.2)
          rw [reps_len rs] at rp
          refine ⟨q, vs, rfl, .inl hr, k0, ?_, fun p hp => ?_⟩
          · show (D.pick vs l h k).length ≤ sizeLine
            unfold D.pick
            rw [reps_len rs, reps_len rp]
            exact hz
          · have sp := s4.hg.hp.sub.none hp
            refine w4 _ _ _ (u0.trans (Sub.ext S4 sp)) (s4.mk' (Sub.ext S4 sp) (s4.hg.share hp)) (rep_lst_new sp ?_)
            unfold D.pick
            rw [reps_len rs]
            exact rp
        · exact w4.elim
      · split at w4
        · rename_i ns hz
          obtain ⟨q, rfl, hr⟩ := rep_scr (K := F.X.K) (S := S4) r4
          refine ⟨q, _, rfl, s4.hg.hp.sub.sqL hr, k0, by rw [pick_map, List.length_map]; exact hz, fun p hp => ?_⟩
          have sp := s4.hg.hp.sub.none hp
          exact w4 _ _ _ (u0.trans (Sub.ext S4 sp)) (s4.mk' (Sub.ext S4 sp) (s4.hg.share hp)) (rep_lst_new sp (by rw [pick_map]; exact reps_ints))
        · exact w4.elim
      · exact w4.elim)
end

/-! ### calls of defs of the text -/
/-- what a def promises: handed data, it tells what G says; all else stays -/
def spD (K : PySem.W.Frag) (G : List D → Res D) : Sp := fun vs H Q Er => ∃ S ds, Sub S H ∧ reps K S ds vs ∧
  (G ds).wp (fun d => ∀ v S' H', Ext S H S' H' → rep K S' d v → Q v H') (fun k => ∀ S' H', Ext S H S' H' → Er (.ref (He.ga K k)) none H')
section
variable (P : Program) (w : World) (K : PySem.W.Frag) (mg : Str → Option Value) (base : Heap)
/-- the def named x tells what G says -/
def Kn (x : Str) (k : Nat) (G : List D → Res D) : Prop := ∃ f fd ps, FnOk P w K mg base (L2.CX P w) k f fd ps (spD K G) ∧ mg x = some (.ref f) ∧ PySem.W.keepIn K (.ref f) = true ∧ Binds K fd ps []
/-- the method m of the class named c -/
def KnM (c m : Str) (k : Nat) (G : List D → Res D) : Prop := ∃ f fd ps, FnOk P w K mg base (L2.CX P w) k f fd ps (spD K G) ∧ Meth K (He.ga K c) m f ∧ Cls K (He.ga K c) ∧ Binds K fd ps []
end
abbrev Fr.Kn (F : Fr) := RL.Kn F.X.prog F.X.w F.X.K F.X.mg F.X.base
abbrev Fr.KnM (F : Fr) := RL.KnM F.X.prog F.X.w F.X.K F.X.mg F.X.base
section
variable {F : Fr} {ρ : List Sl} {Γ : Ga} {a o : Expr} {pos p apos : Pos} {ma : Res D} {es : List Expr} {ms : Res (List D)} {G : List D → Res D} {x m : Str} {k : Nat}
theorem spD_of {S H σ Q ds vs} {G : List D → Res D} (s : StOk F.X.K F.en S H σ ρ Γ) (r : reps F.X.K S ds vs)
    (w : (G ds).wp (fun d => ∀ v S' H', Sub S S' → StOk F.X.K F.en S' H' σ ρ Γ → rep F.X.K S' d v → Q v H') (Xw F ρ Γ σ)) : spD F.X.K G vs H Q (WE F.W σ) :=
  ⟨S, ds, s.hg.hp.sub, r, Res.wp_mono w (fun d z v S' H' e rv => z v S' H' e.up (s.mk' e.up (s.hg.ext e)) rv) fun c z S' H' e => z S' H' (s.mk' e.up (s.hg.ext e))⟩
theorem e_call (T : F.Kn x k G) (hr : Room k F.X.A) (h : Ea F ρ Γ (a :: es) ms) (hg : Gl F.X x := by rfl)
    (hdb : (x == ("__debug__" : Str)) = false := by decide) (he : starEach (a :: es) F.X.env = (false, eval a F.X.env) :: starEach es F.X.env := by rfl) (hpl : (backTo pos (starEach es F.X.env)).any (·.1) = false := by rfl) :
    E F ρ Γ (.Call (.Name x p) (a :: es) [] pos) (ms.bind G) := fun S H σ Q s w => by
  obtain ⟨f, fd, ps, Fn, hm, hk, hb⟩ := T
  exact We.of (pe_callS (E := WE F.W) Fn hr hg hm hk hb (fun σ => passAt F.tk σ) pa_Wa hdb he hpl) (h.go s w fun ds vs S1 H1 u1 s1 r1 w1 =>
    spD_of s1 r1 (Res.wp_mono w1 (fun d z v S' H' u s' rv => z v S' H' (u1.trans u) s' rv) fun _ z => z))
/-- an instance's method, by the instance's class -/
def dsel (m : Str) (tbl : List (Str × (List D → Res D))) (o : D) : Res (List D → Res D) := match o with
  | .obj c fs => match fs.lookup m, tbl.lookup c with
    | none, some G => .ok G
    | _, _ => .stuck
  | _ => .stuck
theorem We.meth {pl : Sem Bool} {te : TE} {ta : TA} (he : PE F.X o te) (ha : PA F.X (a :: es) ta) (hst : starEach (a :: es) F.X.env = (false, eval a F.X.env) :: starEach es F.X.env) (hpl : (backTo pos (starEach es F.X.env)).any (·.1) = false)
    (ht : eval (.Call (.Attribute o m apos) (a :: es) [] pos) F.X.env = (do
      let ov ← eval o F.X.env
      standAt apos.atName
      let (f, first) ← holding [ov] (getMethod ov m pl)
      callWith pos f first (backTo pos (starEach (a :: es) F.X.env)) (backToKw pos (keywordEach [] F.X.env)))) :
    PE F.X (.Call (.Attribute o m apos) (a :: es) [] pos) (fun σ H Q => te σ H fun x H1 => ∃ p C dx fs f fd ps k sp, x = .ref p ∧ H1 p = some (.ins C dx fs) ∧ fs.lookup m = none ∧ Cls F.X.K C ∧ Meth F.X.K C m f ∧
      FnOk F.X.prog F.X.w F.X.K F.X.mg F.X.base (L2.CX F.X.prog F.X.w) k f fd ps sp ∧ Room k F.X.A ∧ Binds F.X.K fd ps [] ∧ ta σ H1 fun vs H2 => sp (x :: vs) H2 Q (WE F.W σ)) := by
  refine ⟨fun pins s σ H Q I h => ?_⟩
  refine PySem.W.methodCall_KW (pl := pl) (thn (he.run pins s σ H _ I h) fun u s1 ⟨x, H1, I1, rx, p, C, dx, fs, f, fd, ps, k, sp, ex, ea, l, c, hm, Fn, hr, hb, q⟩ => ?_) ht
  subst ex
  obtain rfl : u = Value.ref p := rx
  refine getmeth_ok I1 ea c hm l ?_
  refine PySem.W.callWith_K (first := [.ref p]) (h₀ := F.X.base) I.ok.mod.kin hm.kp (thn (ha.run pos pins s1 σ H1 _ I1 q) fun us s2 ⟨vs, H2, I2, r, q2⟩ => ⟨I2.kIn, ?_⟩) hst hpl
  exact run_fnS (us := .ref p :: us) (vs := .ref p :: vs) (E := WE F.W) Fn hr hb (passAt F.tk σ) I2 (.cons rfl r) q2
theorem We.meth0 {pl : Sem Bool} {te : TE} (he : PE F.X o te)
    (ht : eval (.Call (.Attribute o m apos) [] [] pos) F.X.env = (do
      let ov ← eval o F.X.env
      standAt apos.atName
      let (f, first) ← holding [ov] (getMethod ov m pl)
      callWith pos f first (backTo pos (starEach [] F.X.env)) (backToKw pos (keywordEach [] F.X.env)))) :
    PE F.X (.Call (.Attribute o m apos) [] [] pos) (fun σ H Q => te σ H fun x H1 => ∃ p C dx fs f fd ps k sp, x = .ref p ∧ H1 p = some (.ins C dx fs) ∧ fs.lookup m = none ∧ Cls F.X.K C ∧ Meth F.X.K C m f ∧
      FnOk F.X.prog F.X.w F.X.K F.X.mg F.X.base (L2.CX F.X.prog F.X.w) k f fd ps sp ∧ Room k F.X.A ∧ Binds F.X.K fd ps [] ∧ sp [x] H1 Q (WE F.W σ)) := by
  refine ⟨fun pins s σ H Q I h => ?_⟩
  refine PySem.W.methodCall_KW (pl := pl) (thn (he.run pins s σ H _ I h) fun u s1 ⟨x, H1, I1, rx, p, C, dx, fs, f, fd, ps, k, sp, ex, ea, l, c, hm, Fn, hr, hb, q⟩ => ?_) ht
  subst ex
  obtain rfl : u = Value.ref p := rx
  refine getmeth_ok I1 ea c hm l ?_
  exact PySem.W.callWith_K0 (first := [.ref p]) I1.kIn hm.kp (run_fnS (us := [.ref p]) (vs := [.ref p]) (E := WE F.W) Fn hr hb (passAt F.tk σ) I1 (.cons rfl .nil) q)
/-- every class of the table has the method -/
def Fr.Tbl (F : Fr) (m : Str) (k : Nat) (tbl : List (Str × (List D → Res D))) : Prop := ∀ c G, tbl.lookup c = some G → F.KnM c m k G
theorem Fr.Tbl.nil {F : Fr} {m : Str} {k : Nat} : F.Tbl m k [] := fun _ _ e => by cases e
theorem Fr.Tbl.cons {F : Fr} {m : Str} {k : Nat} {c : Str} {G : List D → Res D} {r} (h : F.KnM c m k G) (t : F.Tbl m k r) : F.Tbl m k ((c, G) :: r) := fun c' G' e => by
  rw [List.lookup_cons] at e
  cases q : c' == c with
  | true =>
    rw [q] at e
    have e : some G = some G' := e
    cases e
    rw [beq_iff_eq.mp q]; exact h
  | false => rw [q] at e; exact t c' G' e
theorem wp_dsel {m : Str} {tbl : List (Str × (List D → Res D))} {o : D} {α : Type} {f : (List D → Res D) → Res α} {P : α → Prop} {R : Str → Prop} (h : ((dsel m tbl o).bind f).wp P R) : ∃ c fs G, o = .obj c fs ∧ fs.lookup m = none ∧ tbl.lookup c = some G ∧ (f G).wp P R := by
  unfold dsel at h
  split at h
  · split at h
    · exact ⟨_, _, _, rfl, by assumption, by assumption, h⟩
    · exact h.elim
  · exact h.elim
theorem e_meth {tbl : List (Str × (List D → Res D))} (T : F.Tbl m k tbl) (hr : Room k F.X.A) (ho : E F ρ Γ o ma) (h : Ea F ρ Γ (a :: es) ms) {pl : Sem Bool}
    (hst : starEach (a :: es) F.X.env = (false, eval a F.X.env) :: starEach es F.X.env := by rfl) (hpl : (backTo pos (starEach es F.X.env)).any (·.1) = false := by rfl)
    (ht : eval (.Call (.Attribute o m apos) (a :: es) [] pos) F.X.env = (do
      let ov ← eval o F.X.env
      standAt apos.atName
      let (f, first) ← holding [ov] (getMethod ov m pl)
      callWith pos f first (backTo pos (starEach (a :: es) F.X.env)) (backToKw pos (keywordEach [] F.X.env))) := by rfl) :
    E F ρ Γ (.Call (.Attribute o m apos) (a :: es) [] pos) (ma.bind fun y => (dsel m tbl y).bind fun G => ms.bind fun ys => G (y :: ys)) := fun S H σ Q s w => by
  refine We.of (We.meth pe_We pa_Wa hst hpl ht) (ho.go s w fun d v S1 H1 u1 s1 r1 w1 => ?_)
  obtain ⟨c, fs, G, rfl, hf, hG, w2⟩ := wp_dsel w1
  obtain ⟨p, dx, vs, rfl, hp, rf⟩ := rep_obj r1
  obtain ⟨f, fd, ps, Fn, hm, hc, hb⟩ := T c G hG
  have lk := repf_lookup (f := m) rf
  rw [hf] at lk
  refine ⟨p, _, dx, vs, f, fd, ps, k, _, rfl, s1.hg.hp.sub _ _ hp, lk, hc, hm, Fn, hr, hb, h.go s1 w2 fun ds us S2 H2 u2 s2 r2 w3 => ?_⟩
  exact spD_of s2 (reps_cons (rep_mono u2 _ _ r1) r2) (Res.wp_mono w3 (fun d z v S' H' u s' rv => z v S' H' (u1.trans (u2.trans u)) s' rv) fun _ z => z)
theorem e_meth0 {tbl : List (Str × (List D → Res D))} (T : F.Tbl m k tbl) (hr : Room k F.X.A) (ho : E F ρ Γ o ma) {pl : Sem Bool}
    (ht : eval (.Call (.Attribute o m apos) [] [] pos) F.X.env = (do
      let ov ← eval o F.X.env
      standAt apos.atName
      let (f, first) ← holding [ov] (getMethod ov m pl)
      callWith pos f first (backTo pos (starEach [] F.X.env)) (backToKw pos (keywordEach [] F.X.env))) := by rfl) :
    E F ρ Γ (.Call (.Attribute o m apos) [] [] pos) (ma.bind fun y => (dsel m tbl y).bind fun G => G [y]) := fun S H σ Q s w => by
  refine We.of (We.meth0 pe_We ht) (ho.go s w fun d v S1 H1 u1 s1 r1 w1 => ?_)
  obtain ⟨c, fs, G, rfl, hf, hG, w2⟩ := wp_dsel w1
  obtain ⟨p, dx, vs, rfl, hp, rf⟩ := rep_obj r1
  obtain ⟨f, fd, ps, Fn, hm, hc, hb⟩ := T c G hG
  have lk := repf_lookup (f := m) rf
  rw [hf] at lk
  exact ⟨p, _, dx, vs, f, fd, ps, k, _, rfl, s1.hg.hp.sub _ _ hp, lk, hc, hm, Fn, hr, hb,
    spD_of s1 (reps_one r1) (Res.wp_mono w2 (fun d z v S' H' u s' rv => z v S' H' (u1.trans u) s' rv) fun _ z => z)⟩

/-! ### fields, instances -/
theorem e_fld {tbl : List Str} {f : Str} (T : ∀ c ∈ tbl, Cls F.X.K (He.ga F.X.K c) ∧ NoAttr F.X.K (He.ga F.X.K c) f) (ho : E F ρ Γ o ma) (hb : attributeBase o f F.X.env (eval o F.X.env) = eval o F.X.env := by rfl) :
    E F ρ Γ (.Attribute o f pos) (ma.bind (D.fld tbl f)) := fun S H σ Q s w => We.of (pe_fld pe_We hb) (ho.go s w fun d v S1 H1 u1 s1 r1 w1 => by
  unfold D.fld at w1
  split at w1
  · split at w1
    · rename_i c fs hc
      obtain ⟨p, dx, vs, rfl, hp, rf⟩ := rep_obj r1
      obtain ⟨d, e, w2⟩ := wp_ofOpt w1
      have lk := repf_lookup (f := f) rf
      rw [e] at lk
      obtain ⟨z, lk, rz⟩ := lk
      exact ⟨p, _, dx, vs, z, rfl, s1.hg.hp.sub _ _ hp, (T c hc).1, (T c hc).2, lk, w2 z S1 H1 u1 s1 rz⟩
    · exact w1.elim
  · exact w1.elim)
/-- the fields that an __init__ stores, name by name -/
def putD (f : Str) (d : D) : List (Str × D) → List (Str × D)
  | [] => [(f, d)]
  | (g, e) :: r => if g = f then (g, d) :: r else (g, e) :: putD f d r
theorem repf_put {K : PySem.W.Frag} {S : Hp} {f : Str} {d : D} {v : V} (h : rep K S d v) : ∀ {l : List (Str × D)} {vs : List (Str × V)}, repf K S l vs → repf K S (putD f d l) (putF f v vs)
  | [], vs, r => by
    unfold repf at r; subst r
    show repf K S [(f, d)] [(f, v)]
    unfold repf
    exact ⟨v, [], rfl, h, by unfold repf; rfl⟩
  | (g, e) :: l, vs, r => by
    unfold repf at r
    obtain ⟨v', t, rfl, q, rs⟩ := r
    unfold putD
    show repf K S (if g = f then (g, d) :: l else (g, e) :: putD f d l) (if g = f then (g, v) :: t else (g, v') :: putF f v t)
    by_cases hg : g = f
    · rw [if_pos hg, if_pos hg]
      unfold repf
      exact ⟨v, t, rfl, h, rs⟩
    · rw [if_neg hg, if_neg hg]
      unfold repf
      exact ⟨v', _, rfl, q, repf_put h rs⟩
/-- fields stored in a row -/
def putDs : List (Str × D) → List (Str × D) → List (Str × D)
  | [], l => l
  | (f, d) :: r, l => putDs r (putD f d l)
def putVs : List (Str × V) → List (Str × V) → List (Str × V)
  | [], l => l
  | (f, d) :: r, l => putVs r (putF f d l)
theorem repf_puts {K : PySem.W.Frag} {S : Hp} : ∀ {fs : List Str} {ds : List D} {us : List V} {l : List (Str × D)} {vs : List (Str × V)}, reps K S ds us → repf K S l vs → repf K S (putDs (fs.zip ds) l) (putVs (fs.zip us) vs)
  | [], ds, us, l, vs, _, r => r
  | f :: fs, [], us, l, vs, rs, r => by
    unfold reps at rs; subst rs; exact r
  | f :: fs, d :: ds, us, l, vs, rs, r => by
    unfold reps at rs
    obtain ⟨v, t, rfl, q, rs⟩ := rs
    exact repf_puts (fs := fs) rs (repf_put q r)
/-- what an __init__ promises that stores its arguments under fs -/
def spI (C : Addr) (fs : List Str) : Sp := fun vs H Q _ => ∃ p dx us, vs = V.ref p :: us ∧ us.length = fs.length ∧ H p = some (.ins C dx []) ∧ Q .non (upd H p (.ins C dx (putVs (fs.zip us) [])))
/-- the class named c is made of its fields fs -/
def KnC (P : Program) (w : World) (K : PySem.W.Frag) (mg : Str → Option Value) (base : Heap) (c : Str) (k : Nat) (fs : List Str) : Prop :=
  ∃ f fd ps, FnOk P w K mg base (L2.CX P w) k f fd ps (spI (He.ga K c) fs) ∧ Mk K (He.ga K c) f ∧ mg c = some (.ref (He.ga K c)) ∧ Binds K fd ps []
abbrev Fr.KnC (F : Fr) := RL.KnC F.X.prog F.X.w F.X.K F.X.mg F.X.base
def mkObj (c : Str) (fs : List Str) (ds : List D) : Res D := if ds.length = fs.length then .ok (.obj c (putDs (fs.zip ds) [])) else .stuck
theorem e_make {c : Str} {fs : List Str} (T : F.KnC c k fs) (hr : Room (k + 1) F.X.A) (h : Ea F ρ Γ (a :: es) ms) (hg : Gl F.X c := by rfl) (hdb : (c == ("__debug__" : Str)) = false := by decide)
    (he : starEach (a :: es) F.X.env = (false, eval a F.X.env) :: starEach es F.X.env := by rfl) (hpl : (backTo pos (starEach es F.X.env)).any (·.1) = false := by rfl) :
    E F ρ Γ (.Call (.Name c p) (a :: es) [] pos) (ms.bind (mkObj c fs)) := fun S H σ Q s w => by
  obtain ⟨f, fd, ps, Fn, M, hm, hb⟩ := T
  refine We.of (pe_make (E := fun _ _ _ => False) M Fn hr hg hm hb .nil (fun _ _ _ _ _ _ _ c => ?_) pa_Wa hdb he hpl) (h.go s w fun ds vs S1 H1 u1 s1 r1 w1 => ?_)
  · obtain ⟨_, _, _, _, _, _, _, _, _, _, _, _, z⟩ := c
    exact z.elim
  · unfold mkObj at w1
    split at w1
    · rename_i hl
      intro x dx hx hdx hne
      have g2 : Hg F.X.K F.en S1 (upd H1 dx (.own x)) Γ := s1.hg.junk hdx
      have hx2 : upd H1 dx (.own x) x = none := by rw [upd_ne (Ne.symm hne)]; exact hx
      have sx := s1.hg.hp.sub.none hx
      refine ⟨x, dx, vs, by rw [List.append_nil], by rw [reps_len r1]; exact hl, upd_same, rfl, ?_⟩
      rw [upd_upd]
      refine w1 (.ref x) _ _ (u1.trans (Sub.ext S1 sx)) (s1.mk' (Sub.ext S1 sx) (g2.share hx2)) ?_
      unfold rep
      refine ⟨x, dx, _, rfl, upd_same, ?_⟩
      exact repf_puts (reps_mono (Sub.ext S1 sx) _ _ r1) (by unfold repf; rfl)
    · exact w1.elim
end
end RL

/-! RL6: statements. -/
namespace RL
open PySem L2
/-- how a block ends: on it goes, a value is told (with the cells that were handed in), break, continue -/
inductive Fl (τ β κ : Type) where
  | nx (t : τ) | rt (d : D) (c : κ) | bk (b : β) | ct (b : β)
def andThen {τ τ' β κ : Type} (m : Res (Fl τ β κ)) (f : τ → Res (Fl τ' β κ)) : Res (Fl τ' β κ) := match m with
  | .ok (.nx t) => f t
  | .ok (.rt d c) => .ok (.rt d c)
  | .ok (.bk b) => .ok (.bk b)
  | .ok (.ct b) => .ok (.ct b)
  | .exc k => .exc k
  | .stuck => .stuck
def loop {α τ β κ : Type} : List α → τ → (α → τ → Res (Fl τ τ κ)) → Res (Fl τ β κ)
  | [], s, _ => .ok (.nx s)
  | d :: r, s, f => match f d s with
    | .ok (.nx t) => loop r t f
    | .ok (.ct t) => loop r t f
    | .ok (.bk t) => .ok (.nx t)
    | .ok (.rt d c) => .ok (.rt d c)
    | .exc k => .exc k
    | .stuck => .stuck
def whl {τ β κ : Type} : Nat → τ → (τ → Res Bool) → (τ → Res (Fl τ τ κ)) → Res (Fl τ β κ)
  | 0, _, _, _ => .stuck
  | n + 1, s, c, f => (c s).bind fun b => if b = true then (match f s with
    | .ok (.nx t) => whl n t c f
    | .ok (.ct t) => whl n t c f
    | .ok (.bk t) => .ok (.nx t)
    | .ok (.rt d k) => .ok (.rt d k)
    | .exc k => .exc k
    | .stuck => .stuck) else .ok (.nx s)

structure WSs (X : Cx) (sts : List Stmt) (D : Ends) (σ : St) (H : Hp) : Prop where
  run : ∀ pins s, Inv X pins σ H s → wpAny (model X.prog X.w) X.A (execs sts X.env) (SP X pins D) X.xe s
theorem pss_W {X : Cx} {sts : List Stmt} : PSs X sts (WSs X sts) := ⟨fun pins s σ H D I h => h.run pins s I⟩
theorem WSs.of {X : Cx} {sts : List Stmt} {t : TS} {D : Ends} {σ : St} {H : Hp} (h : PSs X sts t) (q : t D σ H) : WSs X sts D σ H := ⟨fun pins s I => h.run pins s σ H D I q⟩
/-- what comes behind, block by block -/
def Wks (X : Cx) : List (List Stmt) → Ends → St → Hp → Prop
  | [], D => D.nx
  | k :: ks, D => WSs X k { D with nx := Wks X ks D }
structure Wg (X : Cx) (tg : Expr) (v : V) (σ : St) (H : Hp) (Q : St → Hp → Prop) : Prop where
  run : ∀ pins s u, Inv X pins σ H s → RelV v u → wpAny (model X.prog X.w) X.A (assign tg X.env u) (fun _ s' => ∃ σ' H', Inv X pins σ' H' s' ∧ Q σ' H') X.xe s
theorem pg_W {X : Cx} {tg : Expr} : PG X tg (Wg X tg) := ⟨fun pins s σ H v u Q I r h => h.run pins s u I r⟩
theorem Wg.of {X : Cx} {tg : Expr} {g : TG} {v : V} {σ : St} {H : Hp} {Q : St → Hp → Prop} (h : PG X tg g) (q : g v σ H Q) : Wg X tg v σ H Q := ⟨fun pins s u I r => h.run pins s σ H v u Q I r q⟩

/-- a frame of a def, a try's body: where a refusal may come up -/
structure FrS extends Fr where
  al : List Sl → Ga → Prop
  rt : D → V → Hp → Hp → Ga → Prop := fun _ _ _ _ _ => True
section
variable {τ β κ : Type} (F : FrS) (o : τ → Al → List Sl × Ga) (ob : β → Al → List Sl × Ga) (oc : κ → Al → Ga)
def FlW (S : Hp) (D : Ends) : Fl τ β κ → Prop
  | .nx t => ∀ α, AOk F.en.O α → ∀ S' H' σ', Sub S S' → StOk F.X.K F.en S' H' σ' (o t α).1 (o t α).2 → D.nx σ' H'
  | .rt d c => ∀ α v S' H', Sub S S' → Hg F.X.K F.en S' H' (oc c α) → rep F.X.K S' d v → F.rt d v S' H' (oc c α) → D.rt v H'
  | .bk t => ∀ α, AOk F.en.O α → ∀ S' H' σ', Sub S S' → StOk F.X.K F.en S' H' σ' (ob t α).1 (ob t α).2 → D.bk σ' H'
  | .ct t => ∀ α, AOk F.en.O α → ∀ S' H' σ', Sub S S' → StOk F.X.K F.en S' H' σ' (ob t α).1 (ob t α).2 → D.ct σ' H'
def Xs (k : Str) : Prop := ∀ ρ Γ S' H' σ', F.al ρ Γ → StOk F.X.K F.en S' H' σ' ρ Γ → F.W (.ref (He.ga F.X.K k)) none σ' H'
/-- the block sts, then the blocks ks, end as m says -/
def SJ (sts : List Stmt) (ks : List (List Stmt)) (ρ : List Sl) (Γ : Ga) (m : Res (Fl τ β κ)) : Prop := ∀ S H σ D, StOk F.X.K F.en S H σ ρ Γ →
  m.wp (FlW F o ob oc S D) (Xs F) → WSs F.X sts { D with nx := Wks F.X ks D } σ H
end
section
variable {τ τ' β κ : Type} {F : FrS} {o : τ → Al → List Sl × Ga} {o' : τ' → Al → List Sl × Ga} {ob : β → Al → List Sl × Ga} {oc : κ → Al → Ga} {ρ : List Sl} {Γ : Ga} {rest : List Stmt} {ks : List (List Stmt)} {pos : Pos}
theorem SJ.eq {sts : List Stmt} {m m' : Res (Fl τ β κ)} (h : SJ F o ob oc sts ks ρ Γ m) (q : m = m') : SJ F o ob oc sts ks ρ Γ m' := q ▸ h
theorem FlW.up {S S1 : Hp} {D : Ends} (u : Sub S S1) {x : Fl τ β κ} (h : FlW F o ob oc S D x) : FlW F o ob oc S1 D x := by
  cases x with
  | nx t => exact fun α hα S' H' σ' u' => h α hα S' H' σ' (u.trans u')
  | rt d c => exact fun α v S' H' u' => h α v S' H' (u.trans u')
  | bk t => exact fun α hα S' H' σ' u' => h α hα S' H' σ' (u.trans u')
  | ct t => exact fun α hα S' H' σ' u' => h α hα S' H' σ' (u.trans u')
theorem SJ.run {sts : List Stmt} {m : Res (Fl τ β κ)} (h : SJ F o ob oc sts ks ρ Γ m) {S S1 H σ D} (s : StOk F.X.K F.en S1 H σ ρ Γ) (u : Sub S S1) (w : m.wp (FlW F o ob oc S D) (Xs F)) : WSs F.X sts { D with nx := Wks F.X ks D } σ H :=
  h S1 H σ D s (Res.wp_mono w (fun _ q => q.up u) fun _ q => q)
theorem SJ.body {sts : List Stmt} {m : Res (Fl τ β κ)} (h : SJ F o ob oc sts [] ρ Γ m) {S S1 H σ} (D : Ends) (s : StOk F.X.K F.en S1 H σ ρ Γ) (u : Sub S S1) (w : m.wp (FlW F o ob oc S D) (Xs F)) : WSs F.X sts D σ H := by
  obtain ⟨a, b, c, d⟩ := D
  exact h.run (D := ⟨a, b, c, d⟩) s u w
theorem xw_of {k : Str} {σ : St} (ha : F.al ρ Γ) (h : Xs F k) : Xw F.toFr ρ Γ σ k := fun S' H' s => h ρ Γ S' H' σ ha s
/-- an expression's telling at a statement -/
theorem E.at {e : Expr} {m : Res D} (h : E F.toFr ρ Γ e m) (ha : F.al ρ Γ) {α : Type} {f : D → Res α} {S H σ Q} {P : α → Prop} (s : StOk F.X.K F.en S H σ ρ Γ) (w : (m.bind f).wp P (Xs F))
    (k : ∀ d v S' H', Sub S S' → StOk F.X.K F.en S' H' σ ρ Γ → rep F.X.K S' d v → (f d).wp P (Xs F) → Q v H') : We F.X e σ H Q :=
  h S H σ Q s (Res.wp_mono (Res.wp_bind w) (fun d z v S' H' u s' r => k d v S' H' u s' r z) fun _ z => xw_of ha z)
theorem Er.at {e : Expr} {m : Res D} (h : Er F.toFr ρ Γ e m) (ha : F.al ρ Γ) {α : Type} {f : D → Res α} {S H σ Q} {P : α → Prop} (s : StOk F.X.K F.en S H σ ρ Γ) (w : (m.bind f).wp P (Xs F))
    (k : ∀ d v S' H', Sub S S' → StOk F.X.K F.en S' H' σ ρ Γ → (∀ S'' H'', Sub S' S'' → Hg F.X.K F.en S'' H'' Γ → srep F.X.K S'' H'' d v) → (f d).wp P (Xs F) → Q v H') : We F.X e σ H Q :=
  h S H σ Q s (Res.wp_mono (Res.wp_bind w) (fun d z v S' H' u s' r => k d v S' H' u s' r z) fun _ z => xw_of ha z)
theorem T.at {e : Expr} {m : Res Bool} (h : T F.toFr ρ Γ e m) (ha : F.al ρ Γ) {α : Type} {f : Bool → Res α} {S H σ Q} {P : α → Prop} (s : StOk F.X.K F.en S H σ ρ Γ) (w : (m.bind f).wp P (Xs F))
    (k : ∀ b S' H', Sub S S' → StOk F.X.K F.en S' H' σ ρ Γ → (f b).wp P (Xs F) → Q b H') : Wt F.X e σ H Q :=
  h S H σ Q s (Res.wp_mono (Res.wp_bind w) (fun d z S' H' u s' => k d S' H' u s' z) fun _ z => xw_of ha z)
theorem wp_andThen {m : Res (Fl τ β κ)} {f : τ → Res (Fl τ' β κ)} {P : Fl τ' β κ → Prop} {R : Str → Prop} (h : (andThen m f).wp P R) :
    m.wp (fun x => match x with
      | .nx t => (f t).wp P R
      | .rt d c => P (.rt d c)
      | .bk b => P (.bk b)
      | .ct b => P (.ct b)) R := by
  cases m with
  | ok x => cases x <;> exact h
  | exc k => exact h
  | stuck => exact h

/-! ### the ends of a block -/
theorem s_end {t : τ} (α : Al) (hα : AOk F.en.O α) (w : Wk ρ (o t α).1) (f : Fewer Γ (o t α).2) : SJ F o ob oc [] [] ρ Γ (.ok (.nx t)) := fun S H σ D s h => WSs.of pss_nil (h α hα S H σ (Sub.refl S) (s.weak w f))
theorem s_more {k : List Stmt} {m : Res (Fl τ β κ)} (h : SJ F o ob oc k ks ρ Γ m) : SJ F o ob oc [] (k :: ks) ρ Γ m := fun S H σ D s w => WSs.of pss_nil (h S H σ D s w)
theorem s_pass {m : Res (Fl τ β κ)} (h : SJ F o ob oc rest ks ρ Γ m) : SJ F o ob oc (.Pass pos :: rest) ks ρ Γ m := fun S H σ D s w => WSs.of (pss_cons ps_pass pss_W) (h S H σ D s w)
theorem s_break {t : β} (α : Al) (hα : AOk F.en.O α) (w : Wk ρ (ob t α).1) (f : Fewer Γ (ob t α).2) : SJ F o ob oc (.Break pos :: rest) ks ρ Γ (.ok (.bk t)) := fun S H σ D s h =>
  WSs.of (pss_cons ps_break (pss_never (sts := rest))) (h α hα S H σ (Sub.refl S) (s.weak w f))
theorem s_cont {t : β} (α : Al) (hα : AOk F.en.O α) (w : Wk ρ (ob t α).1) (f : Fewer Γ (ob t α).2) : SJ F o ob oc (.Continue pos :: rest) ks ρ Γ (.ok (.ct t)) := fun S H σ D s h =>
  WSs.of (pss_cons ps_continue (pss_never (sts := rest))) (h α hα S H σ (Sub.refl S) (s.weak w f))
theorem s_ret {e : Expr} {m : Res D} {c : κ} (α : Al) (he : E F.toFr ρ Γ e m) (f : Fewer Γ (oc c α)) (ha : F.al ρ Γ) (hq : ∀ d v S H G, F.rt d v S H G := by exact fun _ _ _ _ _ => True.intro) : SJ F o ob oc (.Return (some e) pos :: rest) ks ρ Γ (m.bind fun d => .ok (.rt d c)) := fun S H σ D s w =>
  WSs.of (pss_cons (ps_ret pe_We) (pss_never (sts := rest))) (he.at ha s w fun d v S1 H1 u1 s1 r1 w1 => w1 α v S1 H1 u1 ⟨s1.hg.hp, s1.hg.ga.fewer f⟩ r1 (hq _ _ _ _ _))
theorem s_retN {c : κ} (α : Al) (f : Fewer Γ (oc c α)) (hq : ∀ v S H G, F.rt .non v S H G := by exact fun _ _ _ _ => True.intro) : SJ F o ob oc (.Return none pos :: rest) ks ρ Γ (.ok (.rt .non c)) := fun S H σ D s w =>
  WSs.of (pss_cons ps_retN (pss_never (sts := rest))) (w α .non S H (Sub.refl S) ⟨s.hg.hp, s.hg.ga.fewer f⟩ rep_non (hq _ _ _ _))
/-- a value's name -/
theorem s_set {i : Nat} {x : Str} {e : Expr} {me : Res D} {mr : D → Res (Fl τ β κ)} {pos' : Pos} (he : E F.toFr ρ Γ e me) (hr : ∀ d, SJ F o ob oc rest ks (ρ.set i (.is d)) Γ (mr d)) (hN : F.X.N.Nodup) (hi : F.X.N[i]? = some x) (hx : Loc F.X.env.scope x) (ha : F.al ρ Γ)
    (hs : swapsWith e (some (.Name x pos')) pos.line F.X.env = pure false := by rfl) (hf : F.X.fn x = true ∨ F.X.env.scope.names.lookup x = some .local := by first | exact .inl rfl | exact .inr rfl) :
    SJ F o ob oc (.Assign [.Name x pos'] e pos :: rest) ks ρ Γ (me.bind mr) := fun S H σ D s w =>
  WSs.of (pss_cons (ps_set hN hi hx pe_We hs hf) pss_W) (he.at ha s w fun d v S1 H1 u1 s1 r1 w1 => (hr d).run ⟨s1.hg, s1.sl.set i ⟨v, rfl, r1⟩⟩ u1 w1)
/-- x += e (not the list's own) -/
theorem s_aug {i : Nat} {x : Str} {e : Expr} {op : Operator} {ti : TIp} {f : D → D → Res D} {d0 : D} {me : Res D} {mr : D → Res (Fl τ β κ)} {pos' : Pos} (h0 : ρ[i]? = some (.is d0)) (he : E F.toFr ρ Γ e me)
    (ho : PIp F.X op ti) (hop : ∀ d e x y S H P R (Q : VK), rep F.X.K S d x → rep F.X.K S e y → (f d e).wp P R → (∀ r z, rep F.X.K S r z → P r → Q z H) → ti x y H Q)
    (hr : ∀ d, SJ F o ob oc rest ks (ρ.set i (.is d)) Γ (mr d)) (hN : F.X.N.Nodup) (hi : F.X.N[i]? = some x) (hx : Loc F.X.env.scope x) (ha : F.al ρ Γ)
    (hf : F.X.fn x = true ∨ F.X.env.scope.names.lookup x = some .local := by first | exact .inl rfl | exact .inr rfl) :
    SJ F o ob oc (.AugAssign (.Name x pos') op e pos :: rest) ks ρ Γ (me.bind fun d => (f d0 d).bind mr) := fun S H σ D s w => by
  obtain ⟨ov, e0, v0, rfl, r0⟩ := s.sl.get h0
  refine WSs.of (pss_cons (ps_aug hN hi hx pe_We ho hf) pss_W) ⟨v0, e0, he.at ha s w fun d v S1 H1 u1 s1 r1 w1 => ?_⟩
  refine hop d0 d v0 v S1 H1 _ _ _ (rep_mono u1 _ _ r0) r1 (Res.wp_bind w1) fun r z rz q => ?_
  exact (hr r).run ⟨s1.hg, s1.sl.set i ⟨z, rfl, rz⟩⟩ u1 q
theorem aug_int {g : Int → Int → Int} {f : D → D → Res D} (h : ∀ d e P R, (f d e).wp P R → ∃ i j, d = .int i ∧ e = .int j ∧ P (.int (g i j))) {K : PySem.W.Frag} :
    ∀ d e x y S H P R (Q : VK), rep K S d x → rep K S e y → (f d e).wp P R → (∀ r z, rep K S r z → P r → Q z H) → ipI g x y H Q := fun d e x y S H P R Q rd re w k => by
  obtain ⟨i, j, rfl, rfl, p⟩ := h d e P R w
  exact ⟨i, j, rep_int_eq rd, rep_int_eq re, k _ _ rep_int p⟩
def D.addI : D → D → Res D
  | .int i, .int j => .ok (.int (i + j))
  | _, _ => .stuck
theorem addI_ok (d e : D) (P : D → Prop) (R : Str → Prop) (w : (D.addI d e).wp P R) : ∃ i j, d = .int i ∧ e = .int j ∧ P (.int (i + j)) := by
  unfold D.addI at w; split at w
  · exact ⟨_, _, rfl, rfl, w⟩
  · exact w.elim
theorem subI_ok (d e : D) (P : D → Prop) (R : Str → Prop) (w : (D.sub d e).wp P R) : ∃ i j, d = .int i ∧ e = .int j ∧ P (.int (i - j)) := by
  unfold D.sub at w; split at w
  · exact ⟨_, _, rfl, rfl, w⟩
  · exact w.elim
/-- an expression for nothing -/
theorem s_expr {e : Expr} {me : Res D} {mr : D → Res (Fl τ β κ)} (he : E F.toFr ρ Γ e me) (hr : ∀ d, SJ F o ob oc rest ks ρ Γ (mr d)) (ha : F.al ρ Γ) (hs : swapsWith e none pos.line F.X.env = pure false := by rfl) :
    SJ F o ob oc (.Expr e pos :: rest) ks ρ Γ (me.bind mr) := fun S H σ D s w =>
  WSs.of (pss_cons (ps_expr pe_We hs) pss_W) (he.at ha s w fun d v S1 H1 u1 s1 r1 w1 => (hr d).run s1 u1 w1)
/-- if, each way to its end -/
theorem s_if {c : Expr} {a b : List Stmt} {mc : Res Bool} {ma mb : Res (Fl τ β κ)} (ht : T F.toFr ρ Γ c mc) (h1 : SJ F o ob oc a (rest :: ks) ρ Γ ma) (h2 : SJ F o ob oc b (rest :: ks) ρ Γ mb) (ha : F.al ρ Γ) :
    SJ F o ob oc (.If c a b pos :: rest) ks ρ Γ (mc.bind fun k => if k = true then ma else mb) := fun S H σ D s w =>
  WSs.of (pss_cons (ps_if pt_Wt pss_W pss_W) pss_W) (ht.at ha s w fun k S1 H1 u1 s1 w1 => by
    cases k with
    | true => exact h1.run s1 u1 w1
    | false => exact h2.run s1 u1 w1)
/-- if, the ways joined -/
theorem s_ifJ {c : Expr} {a b : List Stmt} {mc : Res Bool} {ma mb : Res (Fl τ' β κ)} {mr : τ' → Res (Fl τ β κ)} (ht : T F.toFr ρ Γ c mc) (h1 : SJ F o' ob oc a [] ρ Γ ma) (h2 : SJ F o' ob oc b [] ρ Γ mb)
    (hr : ∀ t α, AOk F.en.O α → SJ F o ob oc rest ks (o' t α).1 (o' t α).2 (mr t)) (ha : F.al ρ Γ) :
    SJ F o ob oc (.If c a b pos :: rest) ks ρ Γ (mc.bind fun k => andThen (if k = true then ma else mb) mr) := fun S H σ D s w =>
  WSs.of (pss_cons (ps_if pt_Wt pss_W pss_W) pss_W) (ht.at ha s w fun k S1 H1 u1 s1 w1 => by
    have w2 := wp_andThen w1
    have fin : ∀ m : Res (Fl τ' β κ), (m.wp (fun x => match x with
      | .nx t => (mr t).wp (FlW F o ob oc S D) (Xs F)
      | .rt d c => FlW F o ob oc S D (.rt d c)
      | .bk b => FlW F o ob oc S D (.bk b)
      | .ct b => FlW F o ob oc S D (.ct b)) (Xs F)) → m.wp (FlW F o' ob oc S { D with nx := WSs F.X rest { D with nx := Wks F.X ks D } }) (Xs F) := fun m h => Res.wp_mono h (fun x q => by
        cases x with
        | nx t => exact fun α hα S' H' σ' u' s' => (hr t α hα).run s' u' q
        | rt d c => exact q
        | bk b => exact q
        | ct b => exact q) fun _ q => q
    cases k with
    | true => exact h1.body _ s1 u1 (fin _ w2)
    | false => exact h2.body _ s1 u1 (fin _ w2))

/-! ### what is walked -/
/-- walking iter gives the items m says, in a for (or comprehension) with the target tg -/
def Ei (F : Fr) (ρ : List Sl) (Γ : Ga) (tg iter : Expr) (m : Res (List D)) : Prop := ∀ S H σ (R : It → Hp → Prop), StOk F.X.K F.en S H σ ρ Γ →
  m.wp (fun ds => ∀ J G Y S' H', Sub S S' → StOk F.X.K F.en S' H' σ ρ Γ → Walk J ds.length G Y → (∀ S'' H'' Γ'', Sub S' S'' → Hg F.X.K F.en S'' H'' Γ'' → G H'') →
    (∀ i x S1 H1 H2 Γ1, i < ds.length → Sub S' S1 → Hg F.X.K F.en S1 H1 Γ1 → Y i H1 x H2 → ∃ S2 d, Sub S1 S2 ∧ Hg F.X.K F.en S2 H2 Γ1 ∧ ds[i]? = some d ∧ rep F.X.K S2 d x) → R J H') (Xw F ρ Γ σ) →
  ∃ wi, PI F.X tg iter wi ∧ wi σ H R
/-- slots set in a row -/
def setAll (ρ : List Sl) : List Nat → List D → List Sl
  | i :: is, d :: ds => setAll (ρ.set i (.is d)) is ds
  | _, _ => ρ
def setV (σ : St) : List Nat → List V → St
  | i :: is, v :: vs => setV (σ.set i (some v)) is vs
  | _, _ => σ
/-- a target: the value is taken apart by f, its parts go to the slots is -/
def Tj (F : Fr) (tg : Expr) (f : D → Res (List D)) (is : List Nat) : Prop := ∀ S H σ v d ρ Γ (Q : St → Hp → Prop) R, StOk F.X.K F.en S H σ ρ Γ → rep F.X.K S d v →
  (f d).wp (fun ds => ∀ us, StOk F.X.K F.en S H (setV σ is us) (setAll ρ is ds) Γ → Q (setV σ is us) H) R → Wg F.X tg v σ H Q
def one (d : D) : Res (List D) := .ok [d]
def untup (n : Nat) : D → Res (List D)
  | .tup l => if l.length = n then .ok l else .stuck
  | .lst l => if l.length = n then .ok l else .stuck
  | _ => .stuck
theorem tj_name {F : Fr} {i : Nat} {x : Str} {pos : Pos} (hN : F.X.N.Nodup) (hi : F.X.N[i]? = some x) (hx : Loc F.X.env.scope x) (hf : F.X.fn x = true ∨ F.X.env.scope.names.lookup x = some .local := by first | exact .inl rfl | exact .inr rfl) :
    Tj F (.Name x pos) one [i] := fun S H σ v d ρ Γ Q R s r w => Wg.of (pg_name hN hi hx hf) (w [v] ⟨s.hg, s.sl.set i ⟨v, rfl, r⟩⟩)
structure Wgs (X : Cx) (ts : List Expr) (vs : List V) (σ : St) (H : Hp) (Q : St → Hp → Prop) : Prop where
  run : ∀ pins s us, Inv X pins σ H s → Vals vs us → wpAny (model X.prog X.w) X.A (assignInOrder ((assignEach ts X.env).map (·.2)) us) (fun _ s' => ∃ σ' H', Inv X pins σ' H' s' ∧ Q σ' H') X.xe s
theorem pgs_W {X : Cx} {ts : List Expr} : PGs X ts (Wgs X ts) := ⟨fun pins s σ H v u Q I r h => h.run pins s u I r⟩
theorem Wgs.of {X : Cx} {ts : List Expr} {g : TGs} {vs : List V} {σ : St} {H : Hp} {Q : St → Hp → Prop} (h : PGs X ts g) (q : g vs σ H Q) : Wgs X ts vs σ H Q := ⟨fun pins s u I r => h.run pins s σ H vs u Q I r q⟩
def Tjs (F : Fr) (ts : List Expr) (is : List Nat) : Prop := ∀ S H σ vs ds ρ Γ (Q : St → Hp → Prop), ds.length = is.length → StOk F.X.K F.en S H σ ρ Γ → reps F.X.K S ds vs →
  (StOk F.X.K F.en S H (setV σ is vs) (setAll ρ is ds) Γ → Q (setV σ is vs) H) → Wgs F.X ts vs σ H Q
theorem tjs_nil {F : Fr} : Tjs F [] [] := fun S H σ vs ds ρ Γ Q hl s r w => by
  have e := List.length_eq_zero_iff.mp hl
  subst e
  unfold reps at r; subst r
  exact Wgs.of pgs_nil ⟨rfl, w s⟩
theorem tjs_cons {F : Fr} {x : Str} {pos : Pos} {i : Nat} {ts : List Expr} {is : List Nat} (hN : F.X.N.Nodup) (hi : F.X.N[i]? = some x) (hx : Loc F.X.env.scope x) (h : Tjs F ts is) (hf : F.X.fn x = true ∨ F.X.env.scope.names.lookup x = some .local := by first | exact .inl rfl | exact .inr rfl)
    (hs : (assignEach (.Name x pos :: ts) F.X.env).map (·.2) = assign (.Name x pos) F.X.env :: (assignEach ts F.X.env).map (·.2) := by rfl) :
    Tjs F (.Name x pos :: ts) (i :: is) := fun S H σ vs ds ρ Γ Q hl s r w => by
  cases ds with
  | nil => cases hl
  | cons d ds =>
    unfold reps at r
    obtain ⟨v, t, rfl, q, rs⟩ := r
    refine Wgs.of (pgs_cons (pg_name hN hi hx hf) pgs_W hs) ⟨v, t, rfl, ?_⟩
    exact h S H _ t ds (ρ.set i (.is d)) Γ Q (by simpa using hl) ⟨s.hg, s.sl.set i ⟨v, rfl, q⟩⟩ rs w
theorem tj_tup {F : Fr} {ts : List Expr} {is : List Nat} {k n : Nat} {pos : Pos} (hc : F.X.calm = true) (h : Tjs F ts is) (e : is.length = n := by rfl) (hn : (assignEach ts F.X.env).length = n := by rfl) (hst : (assignEach ts F.X.env).findIdx? (·.1) = none := by rfl) :
    Tj F (.Tuple ts k pos) (untup n) is := fun S H σ v d ρ Γ Q R s r w => by
  unfold untup at w
  split at w
  · split at w
    · rename_i hl
      obtain ⟨p, vs, rfl, hr, rs⟩ := rep_tup r
      exact Wg.of (pg_tup hc pgs_W hn hst) ⟨p, vs, rfl, s.hg.hp.sub.sqT hr, by rw [reps_len rs]; exact hl, h S H σ vs _ ρ Γ Q (by rw [hl, e]) s rs (w vs)⟩
    · exact w.elim
  · split at w
    · rename_i hl
      obtain ⟨p, vs, rfl, hr, rs⟩ := rep_lst r
      exact Wg.of (pg_lst hc pgs_W hn hst) ⟨p, vs, rfl, .inl (s.hg.hp.sub.rd hr), by rw [reps_len rs]; exact hl, h S H σ vs _ ρ Γ Q (by rw [hl, e]) s rs (w vs)⟩
    · exact w.elim
  · exact w.elim
end
section
variable {τ τ' β κ : Type} {F : FrS} {o : τ → Al → List Sl × Ga} {o' : τ' → Al → List Sl × Ga} {ob : β → Al → List Sl × Ga} {oc : κ → Al → Ga} {ρ : List Sl} {Γ : Ga} {rest : List Stmt} {ks : List (List Stmt)} {pos : Pos}
/-- a, b = e -/
theorem s_tup {tg e : Expr} {f : D → Res (List D)} {is : List Nat} {me : Res D} {mr : List D → Res (Fl τ β κ)} (he : E F.toFr ρ Γ e me) (ht : Tj F.toFr tg f is)
    (hr : ∀ ds, SJ F o ob oc rest ks (setAll ρ is ds) Γ (mr ds)) (ha : F.al ρ Γ) (hs : swapsWithSole [tg] e pos.line F.X.env = pure false := by rfl) (hw : swappedStores [tg] e F.X.env = pure none := by rfl)
    (hA : (assignEach [tg] F.X.env).map (·.2) = [assign tg F.X.env] := by rfl) :
    SJ F o ob oc (.Assign [tg] e pos :: rest) ks ρ Γ (me.bind fun d => (f d).bind mr) := fun S H σ D s w =>
  WSs.of (pss_cons (ps_asg pe_We pg_W hs hw hA) pss_W) (he.at ha s w fun d v S1 H1 u1 s1 r1 w1 =>
    ht S1 H1 σ v d ρ Γ _ (Xs F) s1 r1 (Res.wp_mono (Res.wp_bind w1) (fun ds q us s' => (hr ds).run s' u1 q) fun _ q => q))
theorem wp_loop {α : Type} {d : α} {r : List α} {t : τ'} {f : α → τ' → Res (Fl τ' τ' κ)} {g : τ' → Res (Fl τ β κ)} {P : Fl τ β κ → Prop} {R : Str → Prop} (h : (andThen (loop (d :: r) t f) g).wp P R) :
    (f d t).wp (fun x => match x with
      | .nx t => (andThen (loop r t f) g).wp P R
      | .ct t => (andThen (loop r t f) g).wp P R
      | .bk t => (g t).wp P R
      | .rt d c => P (.rt d c)) R := by
  unfold loop at h
  cases q : f d t with
  | ok x => rw [q] at h; cases x <;> exact h
  | exc k => rw [q] at h; exact h
  | stuck => rw [q] at h; exact h
/-- for: the items one by one -/
theorem s_for {tg iter : Expr} {body : List Stmt} {f : D → Res (List D)} {is : List Nat} {mi : Res (List D)} {mb : List D → τ' → Res (Fl τ' τ' κ)} {mr : τ' → Res (Fl τ β κ)} (s0 : τ')
    (hi : Ei F.toFr ρ Γ tg iter mi) (ht : Tj F.toFr tg f is) (α0 : Al) (hα0 : AOk F.en.O α0) (w0 : Wk ρ (o' s0 α0).1) (f0 : Fewer Γ (o' s0 α0).2)
    (hb : ∀ ds t α, AOk F.en.O α → SJ F o' o' oc body [] (setAll (o' t α).1 is ds) (o' t α).2 (mb ds t)) (hr : ∀ t α, AOk F.en.O α → SJ F o ob oc rest ks (o' t α).1 (o' t α).2 (mr t))
    (ha : F.al ρ Γ) (hc : F.X.calm = true) (po : PassesOwn (model F.X.prog F.X.w) F.X.A F.X.env F.X.xe) (hs : ∀ x, foldedSetIterable iter F.X.env x = pure x := by intro _; rfl) :
    SJ F o ob oc (.For tg iter body [] pos :: rest) ks ρ Γ (mi.bind fun ds => andThen (loop ds s0 fun d t => (f d).bind fun xs => mb xs t) mr) := fun S H σ D s w => by
  suffices h : ∃ wi, PI F.X tg iter wi ∧ tFor wi (Wg F.X tg) (WSs F.X body) { D with nx := WSs F.X rest { D with nx := Wks F.X ks D } } σ H by
    obtain ⟨wi, pi, q⟩ := h
    exact WSs.of (pss_cons (ps_for po hc pi pg_W pss_W hs) pss_W) q
  refine hi S H σ _ s (Res.wp_mono (Res.wp_bind w) (fun ds w1 J G Y S1 H1 u1 s1 W gG yY => ?_) fun _ z => xw_of ha z)
  · refine for_it W (fun i σ H => ∃ t α S2, AOk F.en.O α ∧ Sub S S2 ∧ Sub S1 S2 ∧ StOk F.X.K F.en S2 H σ (o' t α).1 (o' t α).2 ∧ (andThen (loop (ds.drop i) t fun d t => (f d).bind fun xs => mb xs t) mr).wp (FlW F o ob oc S D) (Xs F))
      ⟨s0, α0, S1, hα0, u1, Sub.refl S1, s1.weak w0 f0, w1⟩ (fun i σ H _ ⟨t, α, S2, _, _, u, s, _⟩ => gG S2 H _ u s.hg) ?_ ?_
    · rintro i x σ2 H2 H3 hi2 ⟨t, α, S2, hα, u0, u2, s2, w2⟩ y
      obtain ⟨S3, d, u3, g3, hd, rd⟩ := yY i x S2 H2 H3 _ hi2 u2 s2.hg y
      have s3 := s2.mk' u3 g3
      have e : ds.drop i = d :: ds.drop (i + 1) := by
        obtain ⟨h1, h2⟩ := List.getElem?_eq_some_iff.mp hd
        rw [List.drop_eq_getElem_cons h1, h2]
      rw [e] at w2
      have w3 := wp_loop w2
      refine ht S3 H3 σ2 x d _ _ _ (Xs F) s3 rd (Res.wp_mono (Res.wp_bind w3) (fun xs w4 us s' => ?_) fun _ z => z)
      refine (hb xs t α hα).body (S := S3) _ s' (Sub.refl S3) (Res.wp_mono w4 (fun x q => ?_) fun _ z => z)
      cases x with
      | nx t' => exact fun α hα S' H' σ'' u' s'' => ⟨t', α, S', hα, u0.trans (u3.trans u'), u2.trans (u3.trans u'), s'', q⟩
      | rt d' c => exact fun α v S' H' u' => q α v S' H' (u0.trans (u3.trans u'))
      | bk t' => exact fun α hα S' H' σ'' u' s'' => (hr t' α hα).run s'' (u0.trans (u3.trans u')) q
      | ct t' => exact fun α hα S' H' σ'' u' s'' => ⟨t', α, S', hα, u0.trans (u3.trans u'), u2.trans (u3.trans u'), s'', q⟩
    · rintro σ2 H2 ⟨t, α, S2, hα, u0, u2, s2, w2⟩
      rw [List.drop_length] at w2
      exact (hr t α hα).run s2 u0 w2
theorem wp_whl {n : Nat} {t : τ'} {c : τ' → Res Bool} {f : τ' → Res (Fl τ' τ' κ)} {g : τ' → Res (Fl τ β κ)} {P : Fl τ β κ → Prop} {R : Str → Prop} (h : (andThen (whl (n + 1) t c f) g).wp P R) :
    (c t).wp (fun b => if b = true then (f t).wp (fun x => match x with
      | .nx t => (andThen (whl n t c f) g).wp P R
      | .ct t => (andThen (whl n t c f) g).wp P R
      | .bk t => (g t).wp P R
      | .rt d c => P (.rt d c)) R else (g t).wp P R) R := by
  unfold whl at h
  cases q : c t with
  | ok b =>
    rw [q] at h
    cases b with
    | false => exact h
    | true =>
      show (f t).wp _ _
      have h : (andThen (match f t with
        | .ok (.nx t) => whl n t c f
        | .ok (.ct t) => whl n t c f
        | .ok (.bk t) => .ok (.nx t)
        | .ok (.rt d k) => .ok (.rt d k)
        | .exc k => .exc k
        | .stuck => .stuck) g).wp P R := h
      cases q2 : f t with
      | ok x => rw [q2] at h; cases x <;> exact h
      | exc k => rw [q2] at h; exact h
      | stuck => rw [q2] at h; exact h
  | exc k => rw [q] at h; exact h
  | stuck => rw [q] at h; exact h
/-- while, with fuel -/
theorem s_while {c : Expr} {body : List Stmt} {mc : τ' → Res Bool} {mb : τ' → Res (Fl τ' τ' κ)} {mr : τ' → Res (Fl τ β κ)} (n : Nat) (s0 : τ') (α0 : Al) (hα0 : AOk F.en.O α0) (w0 : Wk ρ (o' s0 α0).1) (f0 : Fewer Γ (o' s0 α0).2)
    (ht : ∀ t α, AOk F.en.O α → T F.toFr (o' t α).1 (o' t α).2 c (mc t)) (hb : ∀ t α, AOk F.en.O α → SJ F o' o' oc body [] (o' t α).1 (o' t α).2 (mb t)) (hr : ∀ t α, AOk F.en.O α → SJ F o ob oc rest ks (o' t α).1 (o' t α).2 (mr t))
    (ha : ∀ t α, F.al (o' t α).1 (o' t α).2) (po : PassesOwn (model F.X.prog F.X.w) F.X.A F.X.env F.X.xe) :
    SJ F o ob oc (.While c body [] pos :: rest) ks ρ Γ (andThen (whl n s0 mc mb) mr) := fun S H σ D s w => by
  refine WSs.of (pss_cons (ps_while po pt_Wt pss_W) pss_W) ⟨fun m σ H => ∃ t α S2, AOk F.en.O α ∧ Sub S S2 ∧ StOk F.X.K F.en S2 H σ (o' t α).1 (o' t α).2 ∧ (andThen (whl m t mc mb) mr).wp (FlW F o ob oc S D) (Xs F), ⟨n, s0, α0, S, hα0, Sub.refl S, s.weak w0 f0, w⟩, ?_⟩
  rintro m σ2 H2 ⟨t, α, S2, hα, u2, s2, w2⟩
  cases m with
  | zero => exact False.elim w2
  | succ m =>
    refine (ht t α hα) S2 H2 σ2 _ s2 (Res.wp_mono (wp_whl w2) (fun b q S3 H3 u3 s3 => ?_) fun _ z => xw_of (ha t α) z)
    cases b with
    | false => exact (hr t α hα).run s3 (u2.trans u3) q
    | true =>
      refine ⟨fun σ H => ∃ t α S2, AOk F.en.O α ∧ Sub S S2 ∧ StOk F.X.K F.en S2 H σ (o' t α).1 (o' t α).2 ∧ (andThen (whl m t mc mb) mr).wp (FlW F o ob oc S D) (Xs F), fun σ' H' h => ⟨m, Nat.lt_succ_self m, h⟩, ?_⟩
      refine (hb t α hα).body (S := S3) _ s3 (Sub.refl S3) (Res.wp_mono q (fun x q => ?_) fun _ z => z)
      cases x with
      | nx t' => exact fun α hα S' H' σ'' u' s'' => ⟨t', α, S', hα, u2.trans (u3.trans u'), s'', q⟩
      | rt d' c => exact fun α v S' H' u' => q α v S' H' (u2.trans (u3.trans u'))
      | bk t' => exact fun α hα S' H' σ'' u' s'' => (hr t' α hα).run s'' (u2.trans (u3.trans u')) q
      | ct t' => exact fun α hα S' H' σ'' u' s'' => ⟨t', α, S', hα, u2.trans (u3.trans u'), s'', q⟩
end
end RL

/-! RL7: what is walked; a def's body; raising. -/
namespace RL
open PySem L2
namespace D
def items : D → Res (List D)
  | .lst l => .ok l
  | .tup l => .ok l
  | .scr ns => .ok (ns.map D.int)
  | .str x => .ok (x.cps.toList.map fun c => .str ⟨#[c]⟩)
  | _ => .stuck
def rng (lo : Int) (n : Nat) : List D := (List.range n).map fun (i : Nat) => D.int (lo + (i : Int))
def inB62 (j : Int) : Bool := decide (-4611686018427387904 ≤ j) && decide (j < 4611686018427387904)
def range1 : D → Res (List D)
  | .int j => if inB62 j = true then .ok (rng 0 j.toNat) else .stuck
  | _ => .stuck
def range2 : D → D → Res (List D)
  | .int i, .int j => if inB62 i = true ∧ inB62 j = true then .ok (rng i (j - i).toNat) else .stuck
  | _, _ => .stuck
def enum : D → Res (List D)
  | .lst l => .ok (l.zipIdx.map fun p => .tup [.int (p.2 : Nat), p.1])
  | _ => .stuck
def revs : D → Res (List D)
  | .lst l => .ok l.reverse
  | _ => .stuck
end D
section
variable {F : Fr} {ρ : List Sl} {Γ : Ga} {a b tg : Expr} {pos p : Pos} {ma mb : Res D}
theorem pi_val {X : Cx} {tg l : Expr} {tl : TE} (hl : PE X l tl) : PI X tg l (fun σ H R => tl σ H fun x H1 => (∃ a xs, x = .ref a ∧ SqL X.K H1 a xs ∧ R (Itl X.K a) H1) ∨ (∃ a xs, x = .ref a ∧ SqT X.K H1 a xs ∧ R (Itt X.K a) H1) ∨ (∃ z, x = .str z ∧ R (Its z) H1)) := by
  refine ⟨fun pins s σ H R I h => ?_⟩
  refine thn (hl.run pins s σ H _ I h) fun v s1 ⟨x, H1, I1, r1, q1⟩ => ?_
  rcases q1 with ⟨a, xs, e, hq, q⟩ | ⟨a, xs, e, hq, q⟩ | ⟨z, e, q⟩
  · subst e
    obtain rfl : v = Value.ref a := r1
    obtain ⟨its, rv, p, hz⟩ := I1.list hq
    exact wpAny_pyIter_list p.isList (pi_one (tk := s1.toks) I1 _ (turn_list a _) ⟨_, Heap.get?_push_size _ rfl, rfl, rfl⟩ q)
  · subst e
    obtain rfl : v = Value.ref a := r1
    obtain ⟨its, rv, p, hz⟩ := I1.tuple hq
    exact wpAny_pyIter_tuple (show s1.heap.IsTuple a its.toArray from p) (pi_one (tk := s1.toks) I1 _ (turn_tuple a _) ⟨_, Heap.get?_push_size _ rfl, rfl, rfl⟩ q)
  · subst e
    obtain ⟨t, rfl⟩ := r1
    cases ha : z.cps.all (· < 128)
    · exact wpAny_pyIter_wide ha (pi_one (tk := s1.toks) I1 _ (turn_str _ z t "str_iterator" (.inr rfl)) ⟨_, Heap.get?_push_size _ rfl, rfl, rfl⟩ q)
    · exact wpAny_pyIter_ascii ha (pi_one (tk := s1.toks) I1 _ (turn_str _ z t "str_ascii_iterator" (.inl rfl)) ⟨_, Heap.get?_push_size _ rfl, rfl, rfl⟩ q)
theorem E.goI {e : Expr} {m : Res D} (h : E F ρ Γ e m) {f : D → Res (List D)} {S H σ Q} {P : List D → Prop} (s : StOk F.X.K F.en S H σ ρ Γ) (w : (m.bind f).wp P (Xw F ρ Γ σ))
    (k : ∀ d v S' H', Sub S S' → StOk F.X.K F.en S' H' σ ρ Γ → rep F.X.K S' d v → (f d).wp P (Xw F ρ Γ σ) → Q v H') : We F.X e σ H Q := h.go s w k
theorem ei_val (ha : E F ρ Γ a ma) : Ei F ρ Γ tg a (ma.bind D.items) := fun S H σ R s w =>
  ⟨_, pi_val pe_We, ha.go s w fun d v S1 H1 u1 s1 r1 w1 => by
    have seqL : ∀ (l : List D) (vs : List V) (p : Addr), v = .ref p → (∀ S2 H2, Sub S1 S2 → Sub S2 H2 → SqL F.X.K H2 p vs) → reps F.X.K S1 l vs → D.items d = .ok l → R (Itl F.X.K p) H1 := fun l vs p ev hq rs ei => by
      rw [ei] at w1
      refine w1 _ (fun H => SqL F.X.K H p vs) (YAt vs) S1 H1 u1 s1 (by rw [← reps_len rs]; exact walk_list) (fun S2 H2 Γ2 u2 g2 => hq S2 H2 u2 g2.hp.sub) fun i x S2 H2 H3 Γ2 hi u2 g2 y => ?_
      obtain ⟨rfl, hx⟩ := y
      obtain ⟨d', h1, h2⟩ := reps_getV rs hx
      exact ⟨S2, d', Sub.refl S2, g2, h1, rep_mono u2 _ _ h2⟩
    cases d with
    | lst l =>
      obtain ⟨p, vs, rfl, hr, rs⟩ := rep_lst r1
      exact .inl ⟨p, vs, rfl, .inl (s1.hg.hp.sub.rd hr), seqL l vs p rfl (fun S2 H2 u2 u3 => .inl (u3.rd (u2.rd hr))) rs rfl⟩
    | tup l =>
      obtain ⟨p, vs, rfl, hr, rs⟩ := rep_tup r1
      refine .inr (.inl ⟨p, vs, rfl, s1.hg.hp.sub.sqT hr, ?_⟩)
      refine w1 _ (fun H => SqT F.X.K H p vs) (YAt vs) S1 H1 u1 s1 (by rw [← reps_len rs]; exact walk_tup) (fun S2 H2 Γ2 u2 g2 => g2.hp.sub.sqT (u2.sqT hr)) fun i x S2 H2 H3 Γ2 hi u2 g2 y => ?_
      obtain ⟨rfl, hx⟩ := y
      obtain ⟨d', h1, h2⟩ := reps_getV rs hx
      exact ⟨S2, d', Sub.refl S2, g2, h1, rep_mono u2 _ _ h2⟩
    | scr ns =>
      obtain ⟨p, rfl, hr⟩ := rep_scr r1
      exact .inl ⟨p, _, rfl, s1.hg.hp.sub.sqL hr, seqL (ns.map D.int) _ p rfl (fun S2 H2 u2 u3 => u3.sqL (u2.sqL hr)) reps_ints rfl⟩
    | str x =>
      refine .inr (.inr ⟨x, rep_str_eq r1, ?_⟩)
      refine w1 _ (fun _ => True) (fun i H v H' => H' = H ∧ ∃ c, x.cps[i]? = some c ∧ v = .str ⟨#[c]⟩) S1 H1 u1 s1 (by
        have e : (x.cps.toList.map fun c => D.str ⟨#[c]⟩).length = x.cps.size := by simp
        rw [e]; exact walk_str) (fun S2 H2 Γ2 u2 g2 => trivial) fun i x' S2 H2 H3 Γ2 hi u2 g2 y => ?_
      obtain ⟨rfl, c, hx, rfl⟩ := y
      refine ⟨S2, .str ⟨#[c]⟩, Sub.refl S2, g2, ?_, rep_str⟩
      have e2 : x.cps.toList[i]? = some c := by simpa using hx
      rw [List.getElem?_map, e2]; rfl
    | _ => exact w1.elim⟩
theorem rng_get {lo : Int} {n i : Nat} (h : i < n) : (D.rng lo n)[i]? = some (.int (lo + (i : Int))) := by
  unfold D.rng
  rw [List.getElem?_map, List.getElem?_range h]; rfl
theorem rng_len {lo : Int} {n : Nat} : (D.rng lo n).length = n := by simp [D.rng]
theorem sreps_one {K : PySem.W.Frag} {S H : Hp} {l : List D} {vs : List V} {d : D} (e : l = [d]) (h : sreps K S H l vs) : ∃ v, vs = [v] ∧ srep K S H d v := by
  subst e
  obtain ⟨v, r, rfl, h1, h2⟩ := h
  have h2 : r = [] := h2
  subst h2
  exact ⟨v, rfl, h1⟩
theorem in62 {j : Int} (h : D.inB62 j = true) : -(2 ^ 62) ≤ j ∧ j < 2 ^ 62 := by
  unfold D.inB62 at h
  rw [Bool.and_eq_true, decide_eq_true_eq, decide_eq_true_eq] at h
  exact h
theorem go_range {ds : List D} {P : List D → Prop} {S1 H1 : Hp} {σ : St} {R : It → Hp → Prop} {S : Hp} (lo : Int) (n : Nat) (u1 : Sub S S1) (s1 : StOk F.X.K F.en S1 H1 σ ρ Γ)
    (w : ∀ J G Y S' H', Sub S S' → StOk F.X.K F.en S' H' σ ρ Γ → Walk J (D.rng lo n).length G Y → (∀ S'' H'' Γ'', Sub S' S'' → Hg F.X.K F.en S'' H'' Γ'' → G H'') →
      (∀ i x S1 H1 H2 Γ1, i < (D.rng lo n).length → Sub S' S1 → Hg F.X.K F.en S1 H1 Γ1 → Y i H1 x H2 → ∃ S2 d, Sub S1 S2 ∧ Hg F.X.K F.en S2 H2 Γ1 ∧ (D.rng lo n)[i]? = some d ∧ rep F.X.K S2 d x) → R J H') : R (Itr lo n) H1 := by
  refine w _ (fun _ => True) (YFn fun i => .int (lo + i)) S1 H1 u1 s1 (by rw [rng_len]; exact walk_range) (fun _ _ _ _ _ => trivial) fun i x S2 H2 H3 Γ2 hi u2 g2 y => ?_
  obtain ⟨rfl, rfl⟩ := y
  rw [rng_len] at hi
  exact ⟨S2, _, Sub.refl S2, g2, rng_get hi, rep_int⟩
theorem ei_range1 (hm : F.X.mg "range" = none) (ha : E F ρ Γ a ma) (hg : Gl F.X "range" := by rfl) (hs : starEach [a] F.X.env = [(false, eval a F.X.env)] := by rfl) (hs' : starEach (a :: []) F.X.env = (false, eval a F.X.env) :: starEach [] F.X.env := by rfl) :
    Ei F ρ Γ tg (.Call (.Name "range" p) [a] [] pos) (ma.bind D.range1) := fun S H σ R s w =>
  ⟨_, pi_range1 hg hm pa_Wa hs, Wa.of (pa_cons pe_We pa_Wa hs') (ha.go s w fun d v S1 H1 u1 s1 r1 w1 => Wa.of pa_nil (by
    unfold D.range1 at w1
    split at w1
    · split at w1
      · rename_i j hb
        refine ⟨j, by rw [rep_int_eq r1], (in62 hb).1, (in62 hb).2, ?_⟩
        exact go_range (ds := []) (P := fun _ => True) 0 j.toNat u1 s1 w1
      · exact w1.elim
    · exact w1.elim))⟩
theorem ei_range2 (hm : F.X.mg "range" = none) (ha : E F ρ Γ a ma) (hb : E F ρ Γ b mb) (hg : Gl F.X "range" := by rfl) (hs : starEach [a, b] F.X.env = [(false, eval a F.X.env), (false, eval b F.X.env)] := by rfl) (hs2 : starEach [b] F.X.env = [(false, eval b F.X.env)] := by rfl)
    (hs' : starEach (a :: [b]) F.X.env = (false, eval a F.X.env) :: starEach [b] F.X.env := by rfl) (hs2' : starEach (b :: []) F.X.env = (false, eval b F.X.env) :: starEach [] F.X.env := by rfl) :
    Ei F ρ Γ tg (.Call (.Name "range" p) [a, b] [] pos) (ma.bind fun x => mb.bind fun y => D.range2 x y) := fun S H σ R s w =>
  ⟨_, pi_range2 hg hm pa_Wa hs hs2, Wa.of (pa_cons pe_We pa_Wa hs') (ha.go s w fun d v S1 H1 u1 s1 r1 w1 => Wa.of (pa_cons pe_We pa_Wa hs2') (hb.go s1 w1 fun e v2 S2 H2 u2 s2 r2 w2 => Wa.of pa_nil (by
    unfold D.range2 at w2
    split at w2
    · split at w2
      · rename_i i j hb
        refine ⟨i, j, by rw [rep_int_eq r1, rep_int_eq r2], ⟨(in62 hb.1).1, (in62 hb.1).2, (in62 hb.2).1, (in62 hb.2).2⟩, ?_⟩
        exact go_range (ds := []) (P := fun _ => True) i (j - i).toNat (u1.trans u2) s2 w2
      · exact w2.elim
    · exact w2.elim)))⟩
theorem ei_enum {elts : List Expr} {kk : Nat} {tpos : Pos} (hm : F.X.mg "enumerate" = none) (ha : E F ρ Γ a ma) (hg : Gl F.X "enumerate" := by rfl) (hs : starEach [a] F.X.env = [(false, eval a F.X.env)] := by rfl)
    (hs' : starEach (a :: []) F.X.env = (false, eval a F.X.env) :: starEach [] F.X.env := by rfl) :
    Ei F ρ Γ (.Tuple elts kk tpos) (.Call (.Name "enumerate" p) [a] [] pos) (ma.bind D.enum) := fun S H σ R s w =>
  ⟨_, pi_enum hg hm pa_Wa hs, Wa.of (pa_cons pe_We pa_Wa hs') (ha.go s w fun d v S1 H1 u1 s1 r1 w1 => Wa.of pa_nil (by
    unfold D.enum at w1
    split at w1
    · obtain ⟨q, vs, rfl, hr, rs⟩ := rep_lst r1
      refine ⟨q, vs, rfl, .inl (s1.hg.hp.sub.rd hr), ?_⟩
      rename_i l
      refine w1 _ (fun H => SqL F.X.K H q vs) (YPair (fun i => some (.int (i : Nat))) (fun i => vs[i]?)) S1 H1 u1 s1 (by
        have e : (l.zipIdx.map fun p => D.tup [.int (p.2 : Nat), p.1]).length = vs.length := by simp [reps_len rs]
        rw [e]; exact walk_enum) (fun S2 H2 Γ2 u2 g2 => .inl (g2.hp.sub.rd (u2.rd hr))) fun i x S2 H2 H3 Γ2 hi u2 g2 y => ?_
      obtain ⟨T, y1, y2, rfl, hT, rfl, e1, e2⟩ := y
      cases e1
      obtain ⟨d', h1, h2⟩ := reps_getV rs e2
      have sT := g2.hp.sub.none hT
      refine ⟨_, .tup [.int (i : Nat), d'], Sub.ext S2 sT, g2.share hT, ?_, rep_tup_new sT (reps_cons rep_int (reps_one (rep_mono u2 _ _ h2)))⟩
      rw [List.getElem?_map, List.getElem?_zipIdx, h1]
      simp
    · exact w1.elim))⟩
theorem ei_rev (hm : F.X.mg "reversed" = none) (ha : E F ρ Γ a ma) (hg : Gl F.X "reversed" := by rfl) (hs : starEach [a] F.X.env = [(false, eval a F.X.env)] := by rfl)
    (hs' : starEach (a :: []) F.X.env = (false, eval a F.X.env) :: starEach [] F.X.env := by rfl) :
    Ei F ρ Γ tg (.Call (.Name "reversed" p) [a] [] pos) (ma.bind D.revs) := fun S H σ R s w =>
  ⟨_, pi_reversed hg hm pa_Wa hs, Wa.of (pa_cons pe_We pa_Wa hs') (ha.go s w fun d v S1 H1 u1 s1 r1 w1 => Wa.of pa_nil (by
    unfold D.revs at w1
    split at w1
    · rename_i l
      obtain ⟨q, vs, rfl, hr, rs⟩ := rep_lst r1
      have hl := reps_len rs
      refine ⟨q, vs, rfl, .inl (s1.hg.hp.sub.rd hr), ?_⟩
      refine w1 _ (fun H => SqL F.X.K H q vs) (fun i H x H' => H' = H ∧ vs[vs.length - 1 - i]? = some x) S1 H1 u1 s1 (by
        rw [List.length_reverse, ← hl]; exact walk_rev) (fun S2 H2 Γ2 u2 g2 => .inl (g2.hp.sub.rd (u2.rd hr))) fun i x S2 H2 H3 Γ2 hi u2 g2 y => ?_
      obtain ⟨rfl, e2⟩ := y
      obtain ⟨d', h1, h2⟩ := reps_getV rs e2
      refine ⟨S2, d', Sub.refl S2, g2, ?_, rep_mono u2 _ _ h2⟩
      rw [List.length_reverse] at hi
      rw [List.getElem?_reverse hi, ← hl]
      exact h1
    · exact w1.elim))⟩
end

/-! ### a def's body -/
abbrev Me := Res (Fl Unit Empty Unit)
abbrev o0 (n : Nat) : Unit → Al → List Sl × Ga := fun _ _ => (List.replicate n .un, [])
theorem Wk.all : ∀ (ρ : List Sl) (n : Nat), ρ.length = n → Wk ρ (List.replicate n .un)
  | [], n, e => by subst e; rfl
  | s :: r, n, e => by subst e; exact Wk.un (Wk.all r _ rfl)
abbrev ob0 : Empty → Al → List Sl × Ga := fun e => nomatch e
abbrev oc0 : Unit → Al → Ga := fun _ _ => []
/-- what the def tells -/
def told (m : Me) : Res D := match m with
  | .ok (.nx _) => .ok .non
  | .ok (.rt d _) => .ok d
  | .ok (.bk e) => nomatch e
  | .ok (.ct e) => nomatch e
  | .exc k => .exc k
  | .stuck => .stuck
section
variable (P : Program) (w : World) (K : PySem.W.Frag) (mg : Str → Option Value) (base : Heap)
/-- the frame of a def -/
abbrev frD (N : List Str) (qual : Str) (scope : Scope) (f : Addr) (cdv : Value) (A : Around) (outer : List Env) (s : Shared) (H : Hp) (Er : XK) (S0 : Hp) : FrS :=
  { X := cxOf (L2.CX P w) P w K mg base N qual scope f cdv A outer s H Er, W := fun cls d _ H => Er cls d H, en := ⟨H, S0, []⟩, tk := takes_of rfl rfl rfl rfl, al := fun _ _ => True }
end
section
variable {P : Program} {w : World} {K : PySem.W.Frag} {mg : Str → Option Value} {base : Heap} {x qual : Str} {params : Arguments} {body : List Stmt} {scope : Scope} {f : Addr} {fd : FuncData} {N ps : List Str} {k : Nat}
theorem slsOk_un {S : Hp} : ∀ n : Nat, slsOk K S (List.replicate n Sl.un) (List.replicate n none)
  | 0 => rfl
  | n + 1 => ⟨none, _, rfl, trivial, slsOk_un n⟩
theorem slsOk_args {S : Hp} (n : Nat) : ∀ {ds : List D} {vs : List V}, reps K S ds vs → slsOk K S (ds.map Sl.is ++ List.replicate n Sl.un) (vs.map some ++ List.replicate n none)
  | [], vs, r => by unfold reps at r; subst r; exact slsOk_un n
  | d :: ds, vs, r => by
    unfold reps at r
    obtain ⟨v, t, rfl, q, rs⟩ := r
    exact ⟨some v, _, rfl, ⟨v, rfl, q⟩, slsOk_args n rs⟩
theorem fn_mk (Fd : FunD K x qual params body scope [] [] f fd) (Sc : FnScope N ps scope) (m : List D → Me) (hl : ∀ ds, ds.length ≠ ps.length → m ds = .stuck)
    (hb : ∀ cdv A outer s H Er S0 ds, ds.length = ps.length → Room k (A.deeper (PyProof.Rows.envOfC qual scope s.heap.objs.size f cdv)) →
      SJ (τ := Unit) (β := Empty) (κ := Unit) (frD P w K mg base N qual scope f cdv A outer s H Er S0) (o0 N.length) ob0 oc0 body [] (ds.map Sl.is ++ List.replicate (N.length - ds.length) Sl.un) [] (m ds)) :
    FnOk P w K mg base (L2.CX P w) (k + 1) f fd ps (spD K fun ds => told (m ds)) := by
  have len : ∀ vs H Q E, spD K (fun ds => told (m ds)) vs H Q E → vs.length = ps.length := fun vs H Q E h => by
    obtain ⟨S, ds, u, r, wp⟩ := h
    by_cases e : ds.length = ps.length
    · rw [reps_len r, e]
    · replace wp : (told (m ds)).wp _ _ := wp
      rw [hl ds e] at wp
      exact wp.elim
  refine FunD.ok Fd Sc len fun cdv A outer s H vs Q Er hr h => ?_
  obtain ⟨S, ds, u, r, wp⟩ := id h
  have e : ds.length = ps.length := by rw [← reps_len r]; exact len _ _ _ _ h
  refine ⟨_, pss_W, ?_⟩
  have st : StOk K ⟨H, S, []⟩ S H (L2.start N vs) (ds.map Sl.is ++ List.replicate (N.length - ds.length) Sl.un) [] := by
    refine ⟨⟨⟨u, fun a o _ q => q, fun a o q => ⟨o, q⟩, fun p hm => (nomatch hm), Sub.refl S, fun a o q => .inl ⟨o, q⟩⟩, ⟨fun p c hm => (nomatch hm), List.nodup_nil⟩⟩, ?_⟩
    unfold L2.start
    rw [reps_len r]
    exact slsOk_args _ r
  have ext : ∀ S' H', Sub S S' → Hg K ⟨H, S, []⟩ S' H' [] → Ext S H S' H' := fun S' H' u' g =>
    ⟨u', g.hp.sub, fun a o q => g.hp.keep a o (fun z => nomatch z) q, g.hp.fresh⟩
  refine (hb cdv A outer s H Er S ds e hr).body (S := S) _ st (Sub.refl S) ?_
  replace wp : (told (m ds)).wp _ _ := wp
  cases q : m ds with
  | ok fl =>
    rw [q] at wp
    cases fl with
    | nx t =>
      intro α _ S' H' σ' u' s'
      exact wp .non S' H' (ext S' H' u' ⟨s'.hg.hp, ⟨fun p c hm => (nomatch hm), List.nodup_nil⟩⟩) rep_non
    | rt d c =>
      intro α v S' H' u' g r' _
      exact wp v S' H' (ext S' H' u' g) r'
    | bk e => exact nomatch e
    | ct e => exact nomatch e
  | exc c =>
    rw [q] at wp
    intro ρ' Γ' S' H' σ' _ s'
    have g := s'.hg
    exact wp S' H' ⟨g.hp.s0, g.hp.sub, fun a o q => g.hp.keep a o (fun z => nomatch z) q, g.hp.fresh⟩
  | stuck => rw [q] at wp; exact wp
end
end RL

/-! RL8: built-ins, globals, cells, comprehensions. -/
namespace RL
open PySem L2
/-! ### built-ins -/
def ap1 (f : D → Res D) : List D → Res D
  | [d] => f d
  | _ => .stuck
def ap2 (f : D → D → Res D) : List D → Res D
  | [d, e] => f d e
  | _ => .stuck
theorem wp_ap1 {f : D → Res D} {ds : List D} {P : D → Prop} {R : Str → Prop} (h : (ap1 f ds).wp P R) : ∃ d, ds = [d] ∧ (f d).wp P R := by
  unfold ap1 at h; split at h
  · exact ⟨_, rfl, h⟩
  · exact h.elim
theorem wp_ap2 {f : D → D → Res D} {ds : List D} {P : D → Prop} {R : Str → Prop} (h : (ap2 f ds).wp P R) : ∃ d e, ds = [d, e] ∧ (f d e).wp P R := by
  unfold ap2 at h; split at h
  · exact ⟨_, _, rfl, h⟩
  · exact h.elim
theorem sreps_two {K : PySem.W.Frag} {S H : Hp} {vs : List V} {d e : D} (h : sreps K S H [d, e] vs) : ∃ v u, vs = [v, u] ∧ srep K S H d v ∧ srep K S H e u := by
  obtain ⟨v, r, rfl, h1, u, r', rfl, h2, h3⟩ := h
  have h3 : r' = [] := h3
  subst h3
  exact ⟨v, u, rfl, h1, h2⟩
section
variable {X : Cx}
/-- one argument -/
theorem callD1 {f : Value} {g : D → Res D} {r : List V → Hp → VK → Prop} (h : CallR X f r)
    (k : ∀ en S H Γ R d v Q, Hg X.K en S H Γ → srep X.K S H d v → (g d).wp (fun r => ∀ z S' H', Sub S S' → Hg X.K en S' H' Γ → rep X.K S' r z → Q z H') R → r [v] H Q) : CallR X f (rC X.K (ap1 g)) := by
  intro pins s σ H xs us Q I rv hh
  obtain ⟨en, S, Γ, R, ds, hg, rs, w⟩ := hh
  obtain ⟨d, rfl, w⟩ := wp_ap1 w
  obtain ⟨v, rfl, rd⟩ := sreps_one rfl rs
  exact h pins s σ H _ us Q I rv (k en S H Γ R d v Q hg rd w)
theorem callD_len : CallR X (.builtin "len") (rC X.K (ap1 D.len)) :=
  callD1 (r := fun xs H Q => (∃ p ys, xs = [.ref p] ∧ (SqL X.K H p ys ∨ SqT X.K H p ys) ∧ Q (.int ys.length) H) ∨ ((∃ z, xs = [.str z] ∧ z.length ≤ sizeLine ∧ Q (.int z.length) H) ∨ (∃ a kvs, xs = [V.ref a] ∧ Rd H a (.dK kvs) ∧ Q (.int kvs.length) H)))
    (call_len_seq.or (call_len_str.or (by
      intro pins s σ H xs us Q I rv hh
      obtain ⟨a, kvs, rfl, hr, q⟩ := hh
      rw [Vals.ref1 rv]
      exact d_len I hr fun t s' I' => ⟨.int _, H, I', ⟨t, rfl⟩, q⟩))) fun en S H Γ R d v Q hg rd w => by
    unfold D.len at w
    split at w
    · obtain ⟨p, vs, rfl, hr, rs⟩ := srep_lst rd
      exact .inl ⟨p, vs, rfl, .inl (.inl hr), by rw [reps_len rs]; exact w _ S H (Sub.refl S) hg rep_int⟩
    · obtain ⟨p, vs, rfl, hr, rs⟩ := rep_tup (K := X.K) (S := S) rd
      exact .inl ⟨p, vs, rfl, .inr (hg.hp.sub.sqT hr), by rw [reps_len rs]; exact w _ S H (Sub.refl S) hg rep_int⟩
    · obtain ⟨p, rfl, hr⟩ := rep_scr (K := X.K) (S := S) rd
      exact .inl ⟨p, _, rfl, .inl (hg.hp.sub.sqL hr), by rw [List.length_map]; exact w _ S H (Sub.refl S) hg rep_int⟩
    · split at w
      · rename_i hz
        rw [srep_str rd]
        exact .inr (.inl ⟨_, rfl, hz, w _ S H (Sub.refl S) hg rep_int⟩)
      · exact w.elim
    · obtain ⟨p, vs, rfl, hr, rs⟩ := srep_dic rd
      exact .inr (.inr ⟨p, vs, rfl, hr, by rw [repk_len rs]; exact w _ S H (Sub.refl S) hg rep_int⟩)
    · exact w.elim
theorem callD_sum (hc : X.calm = true) : CallR X (.builtin "sum") (rC X.K (ap1 D.sum)) :=
  callD1 (cr_sum hc) fun en S H Γ R d v Q hg rd w => by
    unfold D.sum at w
    split at w
    · rename_i l
      split at w
      · rename_i ns e
        obtain ⟨p, vs, rfl, hr, rs⟩ := srep_lst rd
        have ev := ints_all rs e
        subst ev
        exact ⟨p, ns, rfl, .inl hr, w _ S H (Sub.refl S) hg rep_int⟩
      · exact w.elim
    · obtain ⟨p, rfl, hr⟩ := rep_scr (K := X.K) (S := S) rd
      exact ⟨p, _, rfl, hg.hp.sub.sqL hr, w _ S H (Sub.refl S) hg rep_int⟩
    · exact w.elim
theorem callD_max2 (hc : X.calm = true) : CallR X (.builtin "max") (rC X.K (ap2 D.max2)) := by
  intro pins s σ H xs us Q I rv hh
  obtain ⟨en, S, Γ, R, ds, hg, rs, w⟩ := hh
  obtain ⟨d, e, rfl, w2⟩ := wp_ap2 w
  obtain ⟨v, u, rfl, rd, re⟩ := sreps_two rs
  unfold D.max2 at w2
  split at w2
  · rw [srep_int rd, srep_int re] at rv
    exact call_max2 hc pins s σ H _ us Q I rv ⟨_, _, rfl, w2 _ S H (Sub.refl S) hg rep_int⟩
  · exact w2.elim
theorem callD_min2 (hc : X.calm = true) : CallR X (.builtin "min") (rC X.K (ap2 D.min2)) := by
  intro pins s σ H xs us Q I rv hh
  obtain ⟨en, S, Γ, R, ds, hg, rs, w⟩ := hh
  obtain ⟨d, e, rfl, w2⟩ := wp_ap2 w
  obtain ⟨v, u, rfl, rd, re⟩ := sreps_two rs
  unfold D.min2 at w2
  split at w2
  · rw [srep_int rd, srep_int re] at rv
    exact call_min2 hc pins s σ H _ us Q I rv ⟨_, _, rfl, w2 _ S H (Sub.refl S) hg rep_int⟩
  · exact w2.elim
theorem callD_list : CallR X (.type "list") (rC X.K (ap1 D.toLst)) :=
  callD1 call_list_of fun en S H Γ R d v Q hg rd w => by
    unfold D.toLst at w
    split at w
    · obtain ⟨p, vs, rfl, hr, rs⟩ := srep_lst rd
      refine ⟨p, vs, rfl, .inl (.inl hr), fun q hq => ?_⟩
      have sp := hg.hp.sub.none hq
      exact w _ _ _ (Sub.ext S sp) (hg.share hq) (rep_lst_new sp rs)
    · obtain ⟨p, vs, rfl, hr, rs⟩ := rep_tup (K := X.K) (S := S) rd
      refine ⟨p, vs, rfl, .inr (hg.hp.sub.sqT hr), fun q hq => ?_⟩
      have sp := hg.hp.sub.none hq
      exact w _ _ _ (Sub.ext S sp) (hg.share hq) (rep_lst_new sp rs)
    · obtain ⟨p, rfl, hr⟩ := rep_scr (K := X.K) (S := S) rd
      refine ⟨p, _, rfl, .inl (hg.hp.sub.sqL hr), fun q hq => ?_⟩
      have sp := hg.hp.sub.none hq
      exact w _ _ _ (Sub.ext S sp) (hg.share hq) (rep_lst_new sp reps_ints)
    · exact w.elim
theorem callD_tuple : CallR X (.type "tuple") (rC X.K (ap1 D.toTup)) :=
  callD1 call_tuple_of fun en S H Γ R d v Q hg rd w => by
    unfold D.toTup at w
    split at w
    · obtain ⟨p, vs, rfl, hr, rs⟩ := srep_lst rd
      refine ⟨p, vs, rfl, .inl ⟨.inl hr, fun q hq => ?_⟩⟩
      have sp := hg.hp.sub.none hq
      exact w _ _ _ (Sub.ext S sp) (hg.share hq) (rep_tup_new sp rs)
    · obtain ⟨p, vs, rfl, hr, rs⟩ := rep_tup (K := X.K) (S := S) rd
      exact ⟨p, vs, rfl, .inr ⟨hg.hp.sub.sqT hr, w _ S H (Sub.refl S) hg rd⟩⟩
    · obtain ⟨p, rfl, hr⟩ := rep_scr (K := X.K) (S := S) rd
      refine ⟨p, _, rfl, .inl ⟨hg.hp.sub.sqL hr, fun q hq => ?_⟩⟩
      have sp := hg.hp.sub.none hq
      exact w _ _ _ (Sub.ext S sp) (hg.share hq) (rep_tup_new sp reps_ints)
    · exact w.elim
namespace D
def int1 : D → Res D
  | .int i => .ok (.int i)
  | .bl c => .ok (.int (if c then 1 else 0))
  | .str x => if x.length ≤ 640 then .ofOpt ((PySem.intText? x).map D.int) else .stuck
  | _ => .stuck
def str1 : D → Res D
  | .int i => if i.natAbs.log2 < 1920 then .ok (.str (toString i)) else .stuck
  | _ => .stuck
def sorted1 : D → Res D
  | .lst l => match allInt l with
    | some ns => .ok (.lst ((ns.mergeSort (fun a b => decide (a ≤ b))).map D.int))
    | none => .stuck
  | _ => .stuck
def tyN : D → Option String
  | .non => some "NoneType"
  | .bl _ => some "bool"
  | .int _ => some "int"
  | .str _ => some "str"
  | .lst _ => some "list"
  | .tup _ => some "tuple"
  | .dic _ => some "dict"
  | _ => none
/-- isinstance(d, T), T a built-in type -/
def isT (T : String) (d : D) : Res D := match tyN d with
  | some a => match kitB a T with
    | some c => .ok (.bl c)
    | none => .stuck
  | none => .stuck
end D
theorem callD_int : CallR X (.type "int") (rC X.K (ap1 D.int1)) :=
  callD1 (call_int1.or call_int_str) fun en S H Γ R d v Q hg rd w => by
    unfold D.int1 at w
    split at w
    · rw [srep_int rd]; exact .inl (.inl ⟨_, rfl, w _ S H (Sub.refl S) hg rep_int⟩)
    · rw [srep_bl rd]; exact .inl (.inr ⟨_, rfl, w _ S H (Sub.refl S) hg rep_int⟩)
    · rename_i x
      split at w
      · rename_i hz
        rw [srep_str rd]
        cases q : PySem.intText? x with
        | none => rw [q] at w; exact w.elim
        | some n =>
          rw [q] at w
          exact .inr ⟨x, n, rfl, q, hz, w _ S H (Sub.refl S) hg rep_int⟩
      · exact w.elim
    · exact w.elim
theorem callD_str : CallR X (.type "str") (rC X.K (ap1 D.str1)) :=
  callD1 call_str_int fun en S H Γ R d v Q hg rd w => by
    unfold D.str1 at w
    split at w
    · split at w
      · rename_i hz
        rw [srep_int rd]; exact ⟨_, rfl, hz, w _ S H (Sub.refl S) hg rep_str⟩
      · exact w.elim
    · exact w.elim
end
section
variable {F : Fr} {ρ : List Sl} {Γ : Ga} {a b : Expr} {pos p p2 : Pos} {ma mb : Res D} {x : Str}
theorem ty_of {K : PySem.W.Frag} {S H : Hp} {d : D} {v : V} {a : String} (hs : Sub S H) (r : srep K S H d v) (e : d.tyN = some a) : TyX K H v (.type a) := by
  cases d with
  | non => cases e; rw [rep_non_eq (K := K) (S := S) r]; exact .base .non
  | bl b => cases e; rw [srep_bl r]; exact .base (.bl b)
  | int b => cases e; rw [srep_int r]; exact .base (.int b)
  | str b => cases e; rw [srep_str r]; exact .base (.str b)
  | lst l =>
    cases e
    obtain ⟨p, vs, rfl, hr, rs⟩ := srep_lst r
    rcases hr with hr | ⟨o, hr⟩
    · exact .base (.lst hr)
    · exact .base (.frz hr)
  | dic l =>
    cases e
    obtain ⟨p, vs, rfl, hr, rs⟩ := srep_dic r
    rcases hr with hr | ⟨o, hr⟩
    · exact .base (.dK hr)
    · exact .fDict hr
  | tup l =>
    cases e
    obtain ⟨p, vs, rfl, hr, rs⟩ := rep_tup (K := K) (S := S) r
    rcases hs.sqT hr with hr | ⟨o, its, n, hk, hc, _⟩
    · rcases hr with hr | ⟨o, hr⟩
      · exact .base (.tup hr)
      · exact .fTuple hr
    · exact .kTuple hk hc
  | scr l => cases e
  | obj c fs => cases e
/-- isinstance(e, T), T a built-in type by its name -/
theorem e_isT {T : String} (hm : F.X.mg "isinstance" = none) (hm2 : F.X.mg x = none) (ha : Er F ρ Γ a ma) (hv : bootBuiltins x = some (.type T) := by decide +kernel) (hg : Gl F.X "isinstance" := by rfl) (hg2 : Gl F.X x := by rfl)
    (hn : x ≠ "__name__" := by decide) (hd : (x == ("__debug__" : Str)) = false := by decide) (hb : bootBuiltins "isinstance" = some (.builtin "isinstance") := by decide +kernel)
    (h1 : starEach (a :: [.Name x p2]) F.X.env = (false, eval a F.X.env) :: starEach [.Name x p2] F.X.env := by rfl) (h2 : starEach (.Name x p2 :: []) F.X.env = (false, eval (.Name x p2) F.X.env) :: starEach [] F.X.env := by rfl)
    (hpl : (backTo pos (starEach [.Name x p2] F.X.env)).any (·.1) = false := by rfl) :
    E F ρ Γ (.Call (.Name "isinstance" p) [a, .Name x p2] [] pos) (ma.bind (D.isT T)) := fun S H σ Q s w =>
  We.of (pe_callB call_isi hg hm hb (pa_cons pe_We (pa_cons (pe_bltn (v := .ty T) hg2 hm2 hv rfl hn hd) pa_nil h2) h1) (by decide) (by decide) h1 hpl)
    (ha.go s w fun d v S1 H1 u1 s1 r1 w1 => by
      unfold D.isT at w1
      split at w1
      · rename_i ty e
        split at w1
        · rename_i c e2
          exact ⟨v, .ty T, .type ty, .type T, c, rfl, .ty T, ty_of s1.hg.hp.sub (r1 S1 H1 (Sub.refl S1) s1.hg) e, kit_ty e2, w1 _ S1 H1 u1 s1 rep_bl⟩
        · exact w1.elim
      · exact w1.elim)
/-! ### constants of the module -/
theorem e_gInt {i : Int} (hm : ∃ t, F.X.mg x = some (.int i t)) (hg : Gl F.X x := by rfl) (hd : (x == ("__debug__" : Str)) = false := by decide) : E F ρ Γ (.Name x pos) (.ok (.int i)) := fun S H σ Q s w => by
  obtain ⟨t, hm⟩ := hm
  exact We.of (pe_glob (v := .int i) hg hm ⟨t, rfl⟩ hd) (w _ S H (Sub.refl S) s rep_int)
theorem e_gStr {i : Str} (hm : ∃ t, F.X.mg x = some (.str i t)) (hg : Gl F.X x := by rfl) (hd : (x == ("__debug__" : Str)) = false := by decide) : E F ρ Γ (.Name x pos) (.ok (.str i)) := fun S H σ Q s w => by
  obtain ⟨t, hm⟩ := hm
  exact We.of (pe_glob (v := .str i) hg hm ⟨t, rfl⟩ hd) (w _ S H (Sub.refl S) s rep_str)
end

/-! ### cells -/
def ceD : Ce → D
  | .lst l => .lst l
  | .dic l => .dic l
  | .ins _ _ => .non
  | .fz _ _ _ => .non
/-- a list or a dict -/
def Ce.ld : Ce → Bool
  | .ins _ _ => false
  | .fz _ _ _ => false
  | _ => true
/-- an expression that makes a new cell -/
def EF {α : Type} (F : Fr) (ρ : List Sl) (Γ : Ga) (k : α → Ce) (e : Expr) (m : Res α) : Prop := ∀ S H σ Q, StOk F.X.K F.en S H σ ρ Γ →
  m.wp (fun c => ∀ p S' H', p ∉ F.en.O → Sub S S' → StOk F.X.K F.en S' H' σ ρ ((p, k c) :: Γ) → Q (.ref p) H') (Xw F ρ Γ σ) → We F.X e σ H Q
section
variable {K : PySem.W.Frag} {en : En} {S H : Hp} {σ : St} {ρ : List Sl} {Γ : Ga}
theorem mem_at {Γ : Ga} {i : Nat} {p : Addr} {c : Ce} (h : Γ[i]? = some (p, c)) : (p, c) ∈ Γ := List.mem_of_getElem? h
theorem Hg.cell (g : Hg K en S H Γ) {i : Nat} {p : Addr} {c : Ce} (h : Γ[i]? = some (p, c)) (hl : c.ld = true) : srep K S H (ceD c) (.ref p) := by
  obtain ⟨_, _, o, h1, h2⟩ := g.ga.ce p c (mem_at h)
  cases c with
  | ins c fs => cases hl
  | fz o kvs l => cases hl
  | lst l =>
    obtain ⟨vs, rfl, rs⟩ := h2
    exact ⟨p, vs, rfl, .inl h1, rs⟩
  | dic l =>
    obtain ⟨vs, rfl, rs⟩ := h2
    exact ⟨p, vs, rfl, .inl h1, rs⟩
theorem set_self {α : Type} : ∀ {l : List α} {i : Nat} {a : α}, l[i]? = some a → l.set i a = l
  | [], _, _, h => by simp at h
  | x :: l, 0, a, h => by simp at h; subst h; rfl
  | x :: l, i + 1, a, h => by
    rw [List.set_cons_succ, set_self (by simpa using h)]
/-- a cell written -/
theorem Hg.write (g : Hg K en S H Γ) {i : Nat} {p : Addr} {c c' : Ce} {o : HO} (h : Γ[i]? = some (p, c)) (ho : ceOk K S c' o) : Hg K en S (upd H p o) (Γ.set i (p, c')) := by
  obtain ⟨h1, h2, o0, h3, h4⟩ := g.ga.ce p c (mem_at h)
  obtain ⟨hi, he⟩ := List.getElem?_eq_some_iff.mp h
  have em : (Γ.set i (p, c')).map (·.1) = Γ.map (·.1) := by
    rw [List.map_set]
    have e : (Γ.map (·.1))[i]? = some p := by rw [List.getElem?_map, h]; rfl
    exact set_self e
  have sne : ∀ a u, S a = some u → a ≠ p := fun a u e z => by rw [z, h1] at e; cases e
  refine ⟨⟨fun a u e => by rw [upd_ne (sne a u e)]; exact g.hp.sub a u e, fun a u na e => ?_, fun a u e => ?_, g.hp.oh, g.hp.s0, g.hp.fresh⟩, ⟨fun q c2 hm => ?_, by rw [em]; exact g.ga.nd⟩⟩
  · have ne : a ≠ p := fun z => by
      subst z
      rcases h2 with h2 | h2
      · exact na h2
      · rw [h2] at e; cases e
    rw [upd_ne ne]; exact g.hp.keep a u na e
  · by_cases z : a = p
    · exact ⟨o, by rw [z]; exact upd_same⟩
    · rw [upd_ne z]; exact g.hp.there a u e
  · by_cases z : q = p
    · subst z
      have hc : c2 = c' := by
        obtain ⟨j, hj⟩ := List.getElem?_of_mem hm
        by_cases ij : i = j
        · subst ij
          rw [List.getElem?_set_self hi] at hj
          cases hj; rfl
        · rw [List.getElem?_set_ne ij] at hj
          have n1 : (Γ.map (·.1))[i]? = some q := by rw [List.getElem?_map, h]; rfl
          have n2 : (Γ.map (·.1))[j]? = some q := by rw [List.getElem?_map, hj]; rfl
          obtain ⟨l1, e1⟩ := List.getElem?_eq_some_iff.mp n1
          obtain ⟨l2, e2⟩ := List.getElem?_eq_some_iff.mp n2
          exact absurd ((List.getElem_inj g.ga.nd).mp (e1.trans e2.symm)) ij
      subst hc
      exact ⟨h1, h2, o, upd_same, ho⟩
    · have hm2 : (q, c2) ∈ Γ := by
        rcases List.mem_or_eq_of_mem_set hm with hm | e
        · exact hm
        · cases e; exact absurd rfl z
      obtain ⟨k1, k2, u, k3, k4⟩ := g.ga.ce q c2 hm2
      exact ⟨k1, k2, u, by rw [upd_ne z]; exact k3, k4⟩
/-- a cell is shared from now on -/
theorem Hg.freeze (g : Hg K en S H Γ) {i : Nat} {p : Addr} {c : Ce} (h : Γ[i]? = some (p, c)) (hn : p ∉ en.O) (hl : c.ld = true) : ∃ S', Sub S S' ∧ Hg K en S' H (Γ.eraseIdx i) ∧ rep K S' (ceD c) (.ref p) := by
  obtain ⟨h1, h2, o, h3, h4⟩ := g.ga.ce p c (mem_at h)
  have h0 : en.H0 p = none := h2.resolve_left hn
  have u : Sub S (upd S p o) := Sub.ext S h1
  refine ⟨upd S p o, u, ⟨⟨fun a v e => ?_, g.hp.keep, g.hp.there, g.hp.oh, g.hp.s0.trans u, fun a v e => ?_⟩, ⟨fun q c2 hm => ?_, ?_⟩⟩, ?_⟩
  · by_cases z : a = p
    · subst z; rw [upd_same] at e; cases e; exact h3
    · rw [upd_ne z] at e; exact g.hp.sub a v e
  · by_cases z : a = p
    · subst z; exact .inr h0
    · rw [upd_ne z] at e; exact g.hp.fresh a v e
  · have hm2 := List.mem_of_mem_eraseIdx hm
    obtain ⟨k1, k2, v, k3, k4⟩ := g.ga.ce q c2 hm2
    have ne : q ≠ p := fun z => by
      subst z
      obtain ⟨j, hj, hje⟩ := List.mem_eraseIdx_iff_getElem?.mp hm
      have n1 : (Γ.map (·.1))[i]? = some q := by rw [List.getElem?_map, h]; rfl
      have n2 : (Γ.map (·.1))[j]? = some q := by rw [List.getElem?_map, hje]; rfl
      obtain ⟨l1, e1⟩ := List.getElem?_eq_some_iff.mp n1
      obtain ⟨l2, e2⟩ := List.getElem?_eq_some_iff.mp n2
      exact absurd ((List.getElem_inj g.ga.nd).mp (e2.trans e1.symm)) hj
    exact ⟨by rw [upd_ne ne]; exact k1, k2, v, k3, k4.mono u⟩
  · exact ((List.eraseIdx_sublist Γ i).map (fun x : Addr × Ce => x.1)).nodup g.ga.nd
  · cases c with
    | ins c fs => cases hl
    | fz o kvs l => cases hl
    | lst l =>
      obtain ⟨vs, rfl, rs⟩ := h4
      exact rep_lst_new h1 rs
    | dic l =>
      obtain ⟨vs, rfl, rs⟩ := h4
      unfold ceD rep
      exact ⟨p, vs, rfl, upd_same, repk_mono u _ _ rs⟩
end
section
variable {F : Fr} {ρ : List Sl} {Γ : Ga} {a b e : Expr} {pos p : Pos} {ma mb : Res D}
theorem EF.go {γ : Type} {kk : γ → Ce} {m : Res γ} (h : EF F ρ Γ kk e m) {α : Type} {f : γ → Res α} {S H σ Q} {P : α → Prop} (s : StOk F.X.K F.en S H σ ρ Γ) (w : (m.bind f).wp P (Xw F ρ Γ σ))
    (k : ∀ c p S' H', p ∉ F.en.O → Sub S S' → StOk F.X.K F.en S' H' σ ρ ((p, kk c) :: Γ) → (f c).wp P (Xw F ρ Γ σ) → Q (.ref p) H') : We F.X e σ H Q :=
  h S H σ Q s (Res.wp_mono (Res.wp_bind w) (fun d z v S' H' n u s' => k d v S' H' n u s' z) fun _ z => z)
/-- what is made is shared at once -/
theorem E.of_EF {γ : Type} {kk : γ → Ce} {m : Res γ} (h : EF F ρ Γ kk e m) (hl : ∀ c, (kk c).ld = true := by exact fun _ => rfl) : E F ρ Γ e (m.bind fun c => .ok (ceD (kk c))) := fun S H σ Q s w => by
  refine h S H σ Q s (Res.wp_mono (Res.wp_bind w) (fun c z p S1 H1 n u1 s1 => ?_) fun _ z => z)
  obtain ⟨S2, u2, g2, r2⟩ := s1.hg.freeze (i := 0) rfl n (hl c)
  exact z _ S2 H1 (u1.trans u2) (s1.mk' u2 g2) r2
end
end RL

/-! RL9: cells made, read, written; comprehensions. -/
namespace RL
open PySem L2
def mkLstC (l : List D) : Res (List D) := if l.length ≤ sizeLine then .ok l else .stuck
section
variable {F : Fr} {ρ : List Sl} {Γ : Ga} {a b e : Expr} {pos p : Pos} {ma mb : Res D} {x : Str}
theorem StOk.own {K : PySem.W.Frag} {en : En} {S H : Hp} {σ : St} (s : StOk K en S H σ ρ Γ) {q : Addr} {o : HO} {c : Ce} (hq : H q = none) (hc : ceOk K S c o) : StOk K en S (upd H q o) σ ρ ((q, c) :: Γ) := ⟨s.hg.own hq hc, s.sl⟩
theorem ef_lst {es : List Expr} {ms : Res (List D)} (h : Ea F ρ Γ es ms) : EF F ρ Γ Ce.lst (.List es pos) (ms.bind mkLstC) := fun S H σ Q s w =>
  We.of (pe_lst pa_Wa) (h.go s w fun ds vs S1 H1 u1 s1 r1 w1 => by
    unfold mkLstC at w1; split at w1
    · rename_i hl
      exact ⟨by rw [reps_len r1]; exact hl, fun q hq => w1 q S1 _ (s1.hg.no hq) u1 (s1.own hq ⟨vs, rfl, r1⟩)⟩
    · exact w1.elim)
theorem ef_dic0 : EF F ρ Γ Ce.dic (.Dict [] [] pos) (.ok []) := fun S H σ Q s w =>
  We.of pe_dnewK fun q hq => w q S _ (s.hg.no hq) (Sub.refl S) (s.own hq ⟨[], rfl, by unfold repk; rfl⟩)
def asKey : D → Res Key
  | .int i => .ok (.inl i)
  | .str x => .ok (.inr x)
  | _ => .stuck
theorem rep_key {K : PySem.W.Frag} {S : Hp} {d : D} {v : V} {P : Key → Prop} {R : Str → Prop} (r : rep K S d v) (w : (asKey d).wp P R) : ∃ k, v = kV k ∧ P k := by
  unfold asKey at w
  split at w
  · exact ⟨.inl _, rep_int_eq r, w⟩
  · exact ⟨.inr _, rep_str_eq r, w⟩
  · exact w.elim
/-- {k: v} -/
theorem ef_dic1 (ha : ∀ q, E F ρ ((q, .dic []) :: Γ) a ma) (hb : ∀ q, E F ρ ((q, .dic []) :: Γ) b mb) : EF F ρ Γ Ce.dic (.Dict [some a] [b] pos) (ma.bind fun x => mb.bind fun y => (asKey x).bind fun k => .ok [(k, y)]) := fun S H σ Q s w =>
  We.of (pe_disp (pps_cons pe_We pe_We pps_nil) (by rfl) (by rfl) (fun z => by cases z) (Nat.le_of_ble_eq_true rfl)) fun q hq => by
    have s0 := s.own (c := .dic []) hq ⟨[], rfl, by unfold repk; rfl⟩
    have n := s.hg.no hq
    have conv : ∀ k, (Xw F ρ Γ σ k) → Xw F ρ ((q, .dic []) :: Γ) σ k := fun k h S' H' s' => h S' H' (s'.weak (Wk.refl ρ) (List.sublist_cons_self ..))
    refine (ha q) S _ σ _ s0 (Res.wp_mono (Res.wp_bind w) (fun x w1 v S1 H1 u1 s1 r1 => ?_) conv)
    refine (hb q) S1 H1 σ _ s1 (Res.wp_mono (Res.wp_bind w1) (fun y w2 v2 S2 H2 u2 s2 r2 => ?_) conv)
    obtain ⟨k, rfl, w3⟩ := rep_key r1 (Res.wp_bind w2)
    obtain ⟨_, _, o, h3, vs, rfl, rs⟩ := s2.hg.ga.ce q _ List.mem_cons_self
    unfold repk at rs; subst rs
    refine ⟨h3, [(k, v2)], rfl, Nat.le_of_ble_eq_true rfl, ?_⟩
    have g := s2.hg.write (i := 0) (c' := .dic [(k, y)]) (o := .dK [(k, v2)]) rfl ⟨_, rfl, by unfold repk; exact ⟨v2, [], rfl, r2, by unfold repk; rfl⟩⟩
    exact w3 q S2 _ n (u1.trans u2) ⟨g, s2.sl⟩
/-- list(e) -/
def D.toL : D → Res (List D)
  | .lst l => .ok l
  | .tup l => .ok l
  | .scr ns => .ok (ns.map D.int)
  | _ => .stuck
theorem ef_list {p2 : Pos} (hm : F.X.mg "list" = none) (ha : Er F ρ Γ a ma) (hg : Gl F.X "list" := by rfl) (hv : bootBuiltins "list" = some (.type "list") := by decide +kernel)
    (he : starEach (a :: []) F.X.env = (false, eval a F.X.env) :: starEach [] F.X.env := by rfl) (hpl : (backTo pos (starEach [] F.X.env)).any (·.1) = false := by rfl) :
    EF F ρ Γ Ce.lst (.Call (.Name "list" p2) [a] [] pos) (ma.bind D.toL) := fun S H σ Q s w =>
  We.of (pe_callTy call_list_of hg hm hv (pa_cons pe_We pa_nil he) (by decide) (by decide) he hpl) (ha.go s w fun d v S1 H1 u1 s1 r1 w1 => by
    have rd := r1 S1 H1 (Sub.refl S1) s1.hg
    unfold D.toL at w1
    split at w1
    · obtain ⟨q, vs, rfl, hr, rs⟩ := srep_lst rd
      exact ⟨q, vs, rfl, .inl (.inl hr), fun l hl => w1 l S1 _ (s1.hg.no hl) u1 (s1.own hl ⟨vs, rfl, rs⟩)⟩
    · obtain ⟨q, vs, rfl, hr, rs⟩ := rep_tup (K := F.X.K) (S := S1) rd
      exact ⟨q, vs, rfl, .inr (s1.hg.hp.sub.sqT hr), fun l hl => w1 l S1 _ (s1.hg.no hl) u1 (s1.own hl ⟨vs, rfl, rs⟩)⟩
    · obtain ⟨q, rfl, hr⟩ := rep_scr (K := F.X.K) (S := S1) rd
      exact ⟨q, _, rfl, .inl (s1.hg.hp.sub.sqL hr), fun l hl => w1 l S1 _ (s1.hg.no hl) u1 (s1.own hl ⟨_, rfl, reps_ints⟩)⟩
    · exact w1.elim)
/-- [..] * n -/
def mulC (l : List D) (d : D) : Res (List D) := match d with
  | .int k => if -9223372036854775808 ≤ k ∧ k < 9223372036854775808 ∧ l.length * k.toNat ≤ sizeLine then .ok (List.replicate k.toNat l).flatten else .stuck
  | _ => .stuck
theorem ef_mul {mc : Res (List D)} (ha : EF F ρ Γ Ce.lst a mc) (hb : ∀ q c, E F ρ ((q, .lst c) :: Γ) b mb) : EF F ρ Γ Ce.lst (.BinOp a .Mult b pos) (mc.bind fun c => mb.bind fun d => mulC c d) := fun S H σ Q s w =>
  We.of (pe_op op_rep pe_We pe_We) (ha.go s w fun c q S1 H1 n1 u1 s1 w1 => (hb q c) S1 H1 σ _ s1 (Res.wp_mono (Res.wp_bind w1) (fun d w2 v S2 H2 u2 s2 r2 => by
    unfold mulC at w2
    split at w2
    · split at w2
      · rename_i k hk
        obtain ⟨_, _, o, h3, vs, rfl, rs⟩ := s2.hg.ga.ce q _ List.mem_cons_self
        refine ⟨q, k, vs, rfl, rep_int_eq r2, h3, hk.1, hk.2.1, by rw [reps_len rs]; exact hk.2.2, fun l' hl' => ?_⟩
        have s3 := s2.weak (Wk.refl ρ) (List.sublist_cons_self _ _)
        exact w2 l' S2 _ (s3.hg.no hl') (u1.trans u2) (s3.own hl' ⟨_, rfl, reps_rep rs _⟩)
      · exact w2.elim
    · exact w2.elim) fun k z S' H' s' => z S' H' (s'.weak (Wk.refl ρ) (List.sublist_cons_self _ _))))
/-- a[lo:hi] of a list -/
def D.cutL (x : D) (l h : Option Int) : Res (List D) := match x with
  | .lst xs => .ok (D.cut xs l h)
  | .scr xs => .ok ((D.cut xs l h).map D.int)
  | _ => .stuck
theorem ef_slice {p2 : Pos} {lo hi : Option Expr} {ml mh : Res (Option Int)} (ha : Er F ρ Γ a ma) (hl : Eo F ρ Γ lo ml) (hh : Eo F ρ Γ hi mh) :
    EF F ρ Γ Ce.lst (.Subscript a (.Slice lo hi none p2) pos) (ma.bind fun x => ml.bind fun l => mh.bind fun h => D.cutL x l h) := fun S H σ Q s w =>
  We.of (pe_slice sl_list pe_We po_Wo po_Wo) (ha.go s w fun d x S1 H1 u1 s1 r1 w1 => hl.go s1 w1 fun l S2 H2 u2 s2 w2 => hh.go s2 w2 fun h S3 H3 u3 s3 w3 => by
    have rd := r1 S3 H3 (u2.trans u3) s3.hg
    have u0 := u1.trans (u2.trans u3)
    unfold D.cutL at w3
    split at w3
    · obtain ⟨q, vs, rfl, hr, rs⟩ := srep_lst rd
      exact ⟨q, vs, rfl, .inl hr, fun l' hl' => w3 l' S3 _ (s3.hg.no hl') u0 (s3.own hl' ⟨_, rfl, reps_cut rs l h⟩)⟩
    · rename_i ns
      obtain ⟨q, rfl, hr⟩ := rep_scr (K := F.X.K) (S := S3) rd
      have e : ∀ (ns : List Int), cutV (ns.map V.int) l h = (D.cut ns l h).map V.int := fun ns => cut_V _ _ _ _
      exact ⟨q, _, rfl, s3.hg.hp.sub.sqL hr, fun l' hl' => w3 l' S3 _ (s3.hg.no hl') u0 (s3.own hl' ⟨_, rfl, by rw [e]; exact reps_ints⟩)⟩
    · exact w3.elim)
/-- a cell read -/
theorem er_cell {i j : Nat} {q : Addr} {c : Ce} (hs : ρ[i]? = some (.at q)) (hc : Γ[j]? = some (q, c)) (hl : c.ld = true := by rfl) {pos : Pos} (hN : F.X.N[i]? = some x := by rfl) (hv : Vis F.X.env.scope x := by first | exact Or.inl rfl | exact Or.inr (Or.inl rfl) | exact Or.inr (Or.inr rfl))
    (h1 : (x == ("__debug__" : Str)) = false := by decide) (h2 : (x == ("__classdict__" : Str)) = false := by decide) : Er F ρ Γ (.Name x pos) (.ok (ceD c)) := fun S H σ Q s w => by
  obtain ⟨o, e, h⟩ := s.sl.get hs
  have h : o = some (.ref q) := h
  subst h
  exact We.of (pe_var hN hv h1 h2) ⟨_, e, w _ S H (Sub.refl S) s fun S2 H2 u2 g2 => g2.cell hc hl⟩
theorem er_cellD {i j : Nat} {q : Addr} {l : List (Key × D)} (hs : ρ[i]? = some (.at q)) (hc : Γ[j]? = some (q, .dic l)) {pos : Pos} (hN : F.X.N[i]? = some x := by rfl) (hv : Vis F.X.env.scope x := by first | exact Or.inl rfl | exact Or.inr (Or.inl rfl) | exact Or.inr (Or.inr rfl))
    (h1 : (x == ("__debug__" : Str)) = false := by decide) (h2 : (x == ("__classdict__" : Str)) = false := by decide) : Er F ρ Γ (.Name x pos) (.ok (.dic l)) := er_cell hs hc rfl hN hv h1 h2
theorem er_cellL {i j : Nat} {q : Addr} {l : List D} (hs : ρ[i]? = some (.at q)) (hc : Γ[j]? = some (q, .lst l)) {pos : Pos} (hN : F.X.N[i]? = some x := by rfl) (hv : Vis F.X.env.scope x := by first | exact Or.inl rfl | exact Or.inr (Or.inl rfl) | exact Or.inr (Or.inr rfl))
    (h1 : (x == ("__debug__" : Str)) = false := by decide) (h2 : (x == ("__classdict__" : Str)) = false := by decide) : Er F ρ Γ (.Name x pos) (.ok (.lst l)) := er_cell hs hc rfl hN hv h1 h2
end

/-! ### statements over cells -/
section
variable {τ τ' β κ : Type} {F : FrS} {o : τ → Al → List Sl × Ga} {o' : τ' → Al → List Sl × Ga} {ob : β → Al → List Sl × Ga} {oc : κ → Al → Ga} {ρ : List Sl} {Γ : Ga} {rest : List Stmt} {ks : List (List Stmt)} {pos : Pos} {a b e : Expr} {ma mb me : Res D} {x : Str}
/-- x = (a new cell) -/
theorem s_setF {γ : Type} {kk : γ → Ce} {i : Nat} {mc : Res γ} {mr : γ → Res (Fl τ β κ)} {pos' : Pos} (he : EF F.toFr ρ Γ kk e mc) (hr : ∀ c q, q ∉ F.en.O → SJ F o ob oc rest ks (ρ.set i (.at q)) ((q, kk c) :: Γ) (mr c)) (hN : F.X.N.Nodup) (hi : F.X.N[i]? = some x) (hx : Loc F.X.env.scope x) (ha : F.al ρ Γ)
    (hs : swapsWith e (some (.Name x pos')) pos.line F.X.env = pure false := by rfl) (hf : F.X.fn x = true ∨ F.X.env.scope.names.lookup x = some .local := by first | exact .inl rfl | exact .inr rfl) :
    SJ F o ob oc (.Assign [.Name x pos'] e pos :: rest) ks ρ Γ (mc.bind mr) := fun S H σ D s w =>
  WSs.of (pss_cons (ps_set hN hi hx pe_We hs hf) pss_W) (he S H σ _ s (Res.wp_mono (Res.wp_bind w) (fun c w1 q S1 H1 n u1 s1 => (hr c q n).run ⟨s1.hg, s1.sl.set i rfl⟩ u1 w1) fun _ z => xw_of ha z))
/-- from here on the cell is but read -/
theorem s_freeze (i j : Nat) {q : Addr} {c : Ce} {m : Res (Fl τ β κ)} {sts : List Stmt} (hs : ρ[i]? = some (.at q)) (hc : Γ[j]? = some (q, c)) (hn : q ∉ F.en.O) (h : SJ F o ob oc sts ks (ρ.set i (.is (ceD c))) (Γ.eraseIdx j) m) (hl : c.ld = true := by rfl) : SJ F o ob oc sts ks ρ Γ m := fun S H σ D s w => by
  obtain ⟨S1, u1, g1, r1⟩ := s.hg.freeze hc hn hl
  obtain ⟨ov, e, hv⟩ := s.sl.get hs
  have hv : ov = some (.ref q) := hv
  subst hv
  have sl1 := (s.sl.mono u1).set i (s := .is (ceD c)) (o := some (.ref q)) ⟨_, rfl, r1⟩
  rw [set_self e] at sl1
  exact h.run ⟨g1, sl1⟩ u1 w
def app (l : List D) (d : D) : Res (List D) := if l.length < sizeLine then .ok (l ++ [d]) else .stuck
/-- x.append(e) -/
theorem s_append {i j : Nat} {q : Addr} {l : List D} {mr : List D → Res (Fl τ β κ)} {p2 apos cpos : Pos} (hs : ρ[i]? = some (.at q)) (hc : Γ[j]? = some (q, .lst l)) (he : E F.toFr ρ Γ e me) (hr : ∀ l', SJ F o ob oc rest ks ρ (Γ.set j (q, .lst l')) (mr l')) (ha : F.al ρ Γ)
    (hN : F.X.N[i]? = some x := by rfl) (hv : Vis F.X.env.scope x := by first | exact Or.inl rfl | exact Or.inr (Or.inl rfl) | exact Or.inr (Or.inr rfl))
    (hpe : ∀ {to : TE} {t : TA}, PE F.X (.Name x p2) to → PA F.X [e] t → PE F.X (.Call (.Attribute (.Name x p2) "append" apos) [e] [] cpos) (tBM F.X.K "list" rAppend to t) := by exact fun ho ha => pe_bm PySem.F.plainAttrs_list PySem.F.slot_list_append PySem.F.type_list_append mt_append ho ha)
    (hst : starEach (e :: []) F.X.env = (false, eval e F.X.env) :: starEach [] F.X.env := by rfl)
    (h1 : (x == ("__debug__" : Str)) = false := by decide) (h2 : (x == ("__classdict__" : Str)) = false := by decide)
    (hsw : swapsWith (.Call (.Attribute (.Name x p2) "append" apos) [e] [] cpos) none pos.line F.X.env = pure false := by rfl) :
    SJ F o ob oc (.Expr (.Call (.Attribute (.Name x p2) "append" apos) [e] [] cpos) pos :: rest) ks ρ Γ (me.bind fun d => (app l d).bind mr) := fun S H σ D s w => by
  obtain ⟨ov, ev, hv'⟩ := s.sl.get hs
  have hv' : ov = some (.ref q) := hv'
  subst hv'
  refine WSs.of (pss_cons (ps_expr (hpe (pe_var hN hv h1 h2) (pa_cons pe_We pa_nil hst)) hsw) pss_W) ⟨_, ev, ?_⟩
  obtain ⟨_, _, ho, h3, vs, rfl, rs⟩ := s.hg.ga.ce q _ (mem_at hc)
  refine ⟨.inl ⟨rfl, _, SqL.of h3⟩, he.at ha s w fun d v S1 H1 u1 s1 r1 w1 => ?_⟩
  obtain ⟨_, _, o1, h5, vs1, rfl, rs1⟩ := s1.hg.ga.ce q _ (mem_at hc)
  unfold app at w1
  split at w1
  · rename_i hl
    refine ⟨q, vs1, v, rfl, rfl, h5, by rw [reps_len rs1]; exact hl, ?_⟩
    exact (hr _).run ⟨s1.hg.write hc ⟨_, rfl, reps_app rs1 (reps_one r1)⟩, s1.sl⟩ u1 w1
  · exact w1.elim
/-- x[i] = e, x a list of one's own -/
def setL (l : List D) (i d : D) : Res (List D) := match i with
  | .int k => match ixN l.length k with
    | some j => .ok (l.set j d)
    | none => .stuck
  | _ => .stuck
theorem s_setI {i j : Nat} {q : Addr} {l : List D} {mr : List D → Res (Fl τ β κ)} {p2 p3 : Pos} (hs : ρ[i]? = some (.at q)) (hc : Γ[j]? = some (q, .lst l)) (he : E F.toFr ρ Γ e me) (hb : E F.toFr ρ Γ b mb) (hr : ∀ l', SJ F o ob oc rest ks ρ (Γ.set j (q, .lst l')) (mr l')) (ha : F.al ρ Γ)
    (hN : F.X.N[i]? = some x := by rfl) (hv : Vis F.X.env.scope x := by first | exact Or.inl rfl | exact Or.inr (Or.inl rfl) | exact Or.inr (Or.inr rfl))
    (h1 : (x == ("__debug__" : Str)) = false := by decide) (h2 : (x == ("__classdict__" : Str)) = false := by decide)
    (hps : ∀ {te : TE} {g : TG}, PE F.X e te → PG F.X (.Subscript (.Name x p2) b p3) g → PS F.X (.Assign [.Subscript (.Name x p2) b p3] e pos) (tAsg te g) := by exact fun h g => ps_asg h g)
    (hpg : ∀ {to ti : TE}, PE F.X (.Name x p2) to → PE F.X b ti → PG F.X (.Subscript (.Name x p2) b p3) (gSub to ti rSetL) := by exact fun h g => pg_sub h g set_list) :
    SJ F o ob oc (.Assign [.Subscript (.Name x p2) b p3] e pos :: rest) ks ρ Γ (me.bind fun d => mb.bind fun k => (setL l k d).bind mr) := fun S H σ D s w => by
  obtain ⟨ov, ev, hv'⟩ := s.sl.get hs
  have hv' : ov = some (.ref q) := hv'
  subst hv'
  refine WSs.of (pss_cons (hps pe_We (hpg (pe_var hN hv h1 h2) pe_We)) pss_W) (he.at ha s w fun d v S1 H1 u1 s1 r1 w1 => ⟨_, ev, hb.at ha s1 w1 fun k v2 S2 H2 u2 s2 r2 w2 => ?_⟩)
  obtain ⟨_, _, o1, h5, vs1, rfl, rs1⟩ := s2.hg.ga.ce q _ (mem_at hc)
  have hl := reps_len rs1
  unfold setL at w2
  split at w2
  · split at w2
    · rename_i n _ m e1
      refine ⟨q, vs1, n, m, rfl, rep_int_eq r2, h5, by rw [hl]; exact e1, ?_⟩
      exact (hr _).run ⟨s2.hg.write hc ⟨_, rfl, reps_set m rs1 (rep_mono u2 _ _ r1)⟩, s2.sl⟩ (u1.trans u2) w2
    · exact w2.elim
  · exact w2.elim
/-- x[k] = e, x a dict of one's own -/
def putKD (l : List (Key × D)) (k : Key) (d : D) : List (Key × D) := if (l.any fun kv => decide (kv.1 = k)) = true then l.map fun kv => if kv.1 = k then (kv.1, d) else kv else l ++ [(k, d)]
def setDic (l : List (Key × D)) (k d : D) : Res (List (Key × D)) := (asKey k).bind fun k => if l.length < sizeLine then .ok (putKD l k d) else .stuck
theorem repk_any {K : PySem.W.Frag} {S : Hp} {k : Key} : ∀ {l : List (Key × D)} {vs : List (Key × V)}, repk K S l vs → (l.any fun kv => decide (kv.1 = k)) = vs.any fun kv => decide (kv.1 = k)
  | [], vs, r => by unfold repk at r; subst r; rfl
  | (j, d) :: l, vs, r => by
    unfold repk at r
    obtain ⟨v, t, rfl, _, rs⟩ := r
    rw [List.any_cons, List.any_cons, repk_any rs]
theorem repk_map {K : PySem.W.Frag} {S : Hp} {k : Key} {d : D} {v : V} (q : rep K S d v) : ∀ {l : List (Key × D)} {vs : List (Key × V)}, repk K S l vs → repk K S (l.map fun kv => if kv.1 = k then (kv.1, d) else kv) (vs.map fun kv => if kv.1 = k then (kv.1, v) else kv)
  | [], vs, r => by unfold repk at r; subst r; unfold List.map repk; rfl
  | (j, e) :: l, vs, r => by
    unfold repk at r
    obtain ⟨u, t, rfl, h, rs⟩ := r
    rw [List.map_cons, List.map_cons]
    by_cases z : j = k
    · rw [if_pos z, if_pos z]
      unfold repk
      exact ⟨v, _, rfl, q, repk_map q rs⟩
    · rw [if_neg z, if_neg z]
      unfold repk
      exact ⟨u, _, rfl, h, repk_map q rs⟩
theorem repk_app {K : PySem.W.Frag} {S : Hp} : ∀ {l l' : List (Key × D)} {vs vs' : List (Key × V)}, repk K S l vs → repk K S l' vs' → repk K S (l ++ l') (vs ++ vs')
  | [], l', vs, vs', r, r' => by unfold repk at r; subst r; exact r'
  | (j, d) :: l, l', vs, vs', r, r' => by
    unfold repk at r
    obtain ⟨v, t, rfl, q, rs⟩ := r
    show repk K S ((j, d) :: (l ++ l')) ((j, v) :: (t ++ vs'))
    unfold repk
    exact ⟨v, _, rfl, q, repk_app rs r'⟩
theorem repk_put {K : PySem.W.Frag} {S : Hp} {k : Key} {d : D} {v : V} {l : List (Key × D)} {vs : List (Key × V)} (q : rep K S d v) (r : repk K S l vs) : repk K S (putKD l k d) (putK vs k v) := by
  unfold putKD putK
  rw [repk_any r]
  split
  · exact repk_map q r
  · exact repk_app r (by unfold repk; exact ⟨v, [], rfl, q, by unfold repk; rfl⟩)
theorem s_setD {i j : Nat} {q : Addr} {l : List (Key × D)} {mr : List (Key × D) → Res (Fl τ β κ)} {p2 p3 : Pos} (hu : F.X.A.units + 1 < cLine) (hs : ρ[i]? = some (.at q)) (hc : Γ[j]? = some (q, .dic l)) (he : E F.toFr ρ Γ e me) (hb : E F.toFr ρ Γ b mb) (hr : ∀ l', SJ F o ob oc rest ks ρ (Γ.set j (q, .dic l')) (mr l')) (ha : F.al ρ Γ)
    (hN : F.X.N[i]? = some x := by rfl) (hv : Vis F.X.env.scope x := by first | exact Or.inl rfl | exact Or.inr (Or.inl rfl) | exact Or.inr (Or.inr rfl))
    (h1 : (x == ("__debug__" : Str)) = false := by decide) (h2 : (x == ("__classdict__" : Str)) = false := by decide)
    (hsw : swapsWith e (some (.Subscript (.Name x p2) b p3)) pos.line F.X.env = pure false := by rfl) :
    SJ F o ob oc (.Assign [.Subscript (.Name x p2) b p3] e pos :: rest) ks ρ Γ (me.bind fun d => mb.bind fun k => (setDic l k d).bind mr) := fun S H σ D s w => by
  obtain ⟨ov, ev, hv'⟩ := s.sl.get hs
  have hv' : ov = some (.ref q) := hv'
  subst hv'
  refine WSs.of (pss_cons (ps_dput hu (pe_var hN hv h1 h2) pe_We pe_We hsw) pss_W) (he.at ha s w fun d v S1 H1 u1 s1 r1 w1 => ⟨_, ev, hb.at ha s1 w1 fun k v2 S2 H2 u2 s2 r2 w2 => ?_⟩)
  obtain ⟨_, _, o1, h5, vs1, rfl, rs1⟩ := s2.hg.ga.ce q _ (mem_at hc)
  unfold setDic at w2
  cases q3 : asKey k with
  | ok kk =>
    rw [q3] at w2
    have w2 : (Res.bind (if l.length < sizeLine then .ok (putKD l kk d) else .stuck) mr).wp _ _ := w2
    have r3 := rep_key (P := fun k' => k' = kk) (R := fun _ => False) r2 (by rw [q3]; rfl)
    obtain ⟨k', rfl, e3⟩ := r3
    subst e3
    split at w2
    · rename_i hl
      exact ⟨q, _, rfl, DPut.k h5 (by rw [repk_len rs1]; exact hl), (hr _).run ⟨s2.hg.write hc ⟨_, rfl, repk_put (rep_mono u2 _ _ r1) rs1⟩, s2.sl⟩ (u1.trans u2) w2⟩
    · exact w2.elim
  | exc c =>
    exfalso
    unfold asKey at q3; split at q3 <;> cases q3
  | stuck => rw [q3] at w2; exact w2.elim
end
end RL

/-! RL10: comprehensions, raising. -/
namespace RL
open PySem L2
/-- a comprehension's list: each item in turn; a refusal within is not told -/
def comp {α : Type} : List α → List D → (α → Res (Option D)) → Res (List D)
  | [], acc, _ => .ok acc
  | d :: r, acc, f => match f d with
    | .ok (some x) => if acc.length < sizeLine then comp r (acc ++ [x]) f else .stuck
    | .ok none => comp r acc f
    | .exc _ => .stuck
    | .stuck => .stuck
/-- the slots of a block's own names forgotten -/
def wipeL (ρ : List Sl) : List Nat → List Sl
  | [] => ρ
  | v :: vs => (wipeL ρ vs).set v .un
section
variable {K : PySem.W.Frag} {en : En} {S H : Hp} {σ : St} {ρ : List Sl} {Γ : Ga}
theorem wipeL_ok (h : slsOk K S ρ σ) : ∀ vs : List Nat, slsOk K S (wipeL ρ vs) (wipe σ vs)
  | [] => h
  | v :: vs => (wipeL_ok h vs).set v trivial
end
/-- the frame of a comprehension's block -/
abbrev frB (X : Cx) (en : En) (s : Shared) (H : Hp) (scope : Scope) (C : Addr) (cl : List (Str × Addr)) (fp : List Addr) : Fr :=
  { X := X.blk s H scope (compEnvC scope cl C X.env) fp, W := fun _ _ _ _ => False, en := en, tk := takes0 }
section
variable {X : Cx} {en : En} {ρ : List Sl} {Γ : Ga} {tg iter elt : Expr} {ifs : List Expr} {scope : Scope} {own : List (Str × Nat)} {pos : Pos}
def TsB (F : Fr) (ρ : List Sl) (Γ : Ga) (ifs : List Expr) (m : Res Bool) : Prop := (ifs = [] ∧ m = .ok true) ∨ ∃ c, ifs = [c] ∧ T F ρ Γ c m
end
section
variable {F : Fr} {ρ : List Sl} {Γ : Ga} {tg iter elt : Expr} {ifs : List Expr} {scope : Scope} {own : List (Str × Nat)} {pos : Pos} {mi : Res (List D)} {f : D → Res (List D)} {is : List Nat}
  {mt : List D → Res Bool} {me : List D → Res D}
abbrev Fr.b (F : Fr) (s : Shared) (H : Hp) (scope : Scope) (C : Addr) (cl : List (Str × Addr)) (fp : List Addr) : Fr := frB F.X F.en s H scope C cl fp
/-- the element's telling -/
def elM (f : D → Res (List D)) (mt : List D → Res Bool) (me : List D → Res D) (d : D) : Res (Option D) := (f d).bind fun xs => (mt xs).bind fun b => if b = true then (me xs).bind fun y => .ok (some y) else .ok none
def gB (X : Cx) (scope : Scope) (tg : Expr) : TG := fun v σ H Q => ∀ s H0 C cl fp, Wg (X.blk s H0 scope (compEnvC scope cl C X.env) fp) tg v σ H Q
def eB (X : Cx) (scope : Scope) (e : Expr) : TE := fun σ H Q => ∀ s H0 C cl fp, We (X.blk s H0 scope (compEnvC scope cl C X.env) fp) e σ H Q
def tB' (X : Cx) (scope : Scope) (e : Expr) : TT := fun σ H Q => ∀ s H0 C cl fp, Wt (X.blk s H0 scope (compEnvC scope cl C X.env) fp) e σ H Q
def tsB (X : Cx) (scope : Scope) : List Expr → TT
  | [] => tYes
  | c :: _ => tB' X scope c
theorem comp_cons {d : D} {r : List D} {acc : List D} {g : D → Res (Option D)} : comp (d :: r) acc g = match g d with
    | .ok (some x) => if acc.length < sizeLine then comp r (acc ++ [x]) g else .stuck
    | .ok none => comp r acc g
    | .exc _ => .stuck
    | .stuck => .stuck := rfl
theorem wp_comp {d : D} {r : List D} {acc : List D} {g : D → Res (Option D)} {P : List D → Prop} {R : Str → Prop} (h : (comp (d :: r) acc g).wp P R) :
    (g d).wp (fun o => match o with
      | some x => acc.length < sizeLine ∧ (comp r (acc ++ [x]) g).wp P R
      | none => (comp r acc g).wp P R) fun _ => False := by
  rw [comp_cons] at h
  cases q : g d with
  | ok o =>
    rw [q] at h
    cases o with
    | none => exact h
    | some x =>
      have h : (if acc.length < sizeLine then comp r (acc ++ [x]) g else .stuck).wp P R := h
      split at h
      · rename_i hl; exact ⟨hl, h⟩
      · exact h.elim
  | exc k => rw [q] at h; exact h
  | stuck => rw [q] at h; exact h
theorem wipe_get (σ : St) : ∀ (vs : List Nat) (j : Nat), (wipe σ vs)[j]? = if j ∈ vs ∧ j < σ.length then some none else σ[j]?
  | [], j => by simp [wipe]
  | v :: vs, j => by
    unfold wipe
    by_cases h : v = j
    · subst h
      by_cases hl : v < σ.length
      · rw [List.getElem?_set_self (by rw [wipe_length]; exact hl)]
        simp [hl]
      · have e1 : ((wipe σ vs).set v none)[v]? = none := List.getElem?_eq_none (by rw [List.length_set, wipe_length]; omega)
        rw [e1]
        simp [hl]
    · rw [List.getElem?_set_ne h, wipe_get σ vs j]
      have h' : ¬ j = v := fun z => h z.symm
      simp [h']
theorem wipe_set (σ : St) (vs : List Nat) {i : Nat} (hi : i ∈ vs) (x : Option V) : wipe (σ.set i x) vs = wipe σ vs := by
  apply List.ext_getElem?
  intro j
  rw [wipe_get, wipe_get, List.length_set]
  by_cases h : j ∈ vs ∧ j < σ.length
  · rw [if_pos h, if_pos h]
  · rw [if_neg h, if_neg h]
    by_cases e : i = j
    · subst e
      have hl : ¬ i < σ.length := fun z => h ⟨hi, z⟩
      rw [List.getElem?_eq_none (by rw [List.length_set]; omega), List.getElem?_eq_none (by omega)]
    · rw [List.getElem?_set_ne e]
theorem wipe_setV (vs : List Nat) : ∀ (is : List Nat) (us : List V) (σ : St), (∀ i ∈ is, i ∈ vs) → wipe (setV σ is us) vs = wipe σ vs
  | [], us, σ, _ => by unfold setV; rfl
  | i :: is, [], σ, _ => by unfold setV; rfl
  | i :: is, u :: us, σ, h => by
    unfold setV
    rw [wipe_setV vs is us _ fun j hj => h j (List.mem_cons_of_mem _ hj), wipe_set σ vs (h i List.mem_cons_self)]
theorem wipe_wipe (σ : St) (vs : List Nat) : wipe (wipe σ vs) vs = wipe σ vs := by
  apply List.ext_getElem?
  intro j
  rw [wipe_get, wipe_length]
  by_cases h : j ∈ vs ∧ j < σ.length
  · rw [if_pos h, wipe_get, if_pos h]
  · rw [if_neg h]
theorem lc_W {S H σ} {Q : VK} (hi : Ei F ρ Γ tg iter mi) (s : StOk F.X.K F.en S H σ ρ Γ)
    (ht : ∀ s H0 C cl fp, Tj (F.b s H0 scope C cl fp) tg f is) (hts : ∀ xs s H0 C cl fp q acc, TsB (F.b s H0 scope C cl fp) (setAll (wipeL ρ (own.map (·.2))) is xs) ((q, .lst acc) :: Γ) ifs (mt xs))
    (hel : ∀ xs s H0 C cl fp q acc, E (F.b s H0 scope C cl fp) (setAll (wipeL ρ (own.map (·.2))) is xs) ((q, .lst acc) :: Γ) elt (me xs))
    (hio : ∀ i ∈ is, i ∈ own.map (·.2))
    (w : (mi.bind fun ds => comp ds [] (elM f mt me)).wp (fun l => ∀ p S' H', p ∉ F.en.O → Sub S S' → StOk F.X.K F.en S' H' σ ρ ((p, .lst l) :: Γ) → Q (.ref p) H') (Xw F ρ Γ σ)) :
    ∃ wi, PI F.X tg iter wi ∧ tLc wi (gB F.X scope tg) (tsB F.X scope ifs) (eB F.X scope elt) (own.map (·.2)) σ H Q := by
  refine hi S H σ _ s (Res.wp_mono (Res.wp_bind w) (fun ds w1 J G Y S1 H1 u1 s1 W gG yY q hq => ?_) fun _ z => z)
  have n := s1.hg.no hq
  refine lc_it W (fun i H => ∃ l S2, Sub S1 S2 ∧ StOk F.X.K F.en S2 H σ ρ ((q, .lst l) :: Γ) ∧ (comp (ds.drop i) l (elM f mt me)).wp (fun l => ∀ p S' H', p ∉ F.en.O → Sub S S' → StOk F.X.K F.en S' H' σ ρ ((p, .lst l) :: Γ) → Q (.ref p) H') (Xw F ρ Γ σ))
    ⟨[], S1, Sub.refl S1, s1.own hq ⟨[], rfl, reps_nil⟩, w1⟩ (fun i H _ ⟨l, S2, u2, s2, _⟩ => gG S2 H _ u2 s2.hg) ?_ ?_
  · rintro i x H2 H3 hi2 ⟨l, S2, u2, s2, w2⟩ y
    obtain ⟨S3, d, u3, g3, hd, rd⟩ := yY i x S2 H2 H3 _ hi2 u2 s2.hg y
    have s3 := s2.mk' u3 g3
    have sb : StOk F.X.K F.en S3 H3 (wipe σ (own.map (·.2))) (wipeL ρ (own.map (·.2))) ((q, .lst l) :: Γ) := ⟨s3.hg, wipeL_ok s3.sl _⟩
    have e : ds.drop i = d :: ds.drop (i + 1) := by
      obtain ⟨h1, h2⟩ := List.getElem?_eq_some_iff.mp hd
      rw [List.drop_eq_getElem_cons h1, h2]
    rw [e] at w2
    intro s' H0 C cl fp
    refine ht s' H0 C cl fp S3 H3 _ x d _ _ _ (fun _ => False) sb rd (Res.wp_mono (Res.wp_bind (wp_comp w2)) (fun xs w4 us s4 => ⟨by rw [wipe_setV _ is us _ hio, wipe_wipe], ?_⟩) fun _ z => z)
    have w5 := Res.wp_bind w4
    -- the test, then the element
    have fin : ∀ (b : Bool) (S5 : Hp) (H5 : Hp), Sub S3 S5 → StOk F.X.K F.en S5 H5 (setV (wipe σ (own.map (·.2))) is us) (setAll (wipeL ρ (own.map (·.2))) is xs) ((q, .lst l) :: Γ) →
        ((if b = true then (me xs).bind fun y => .ok (some y) else .ok none : Res (Option D)).wp (fun o => match o with
          | some x => l.length < sizeLine ∧ (comp (ds.drop (i + 1)) (l ++ [x]) (elM f mt me)).wp (fun l => ∀ p S' H', p ∉ F.en.O → Sub S S' → StOk F.X.K F.en S' H' σ ρ ((p, .lst l) :: Γ) → Q (.ref p) H') (Xw F ρ Γ σ)
          | none => (comp (ds.drop (i + 1)) l (elM f mt me)).wp (fun l => ∀ p S' H', p ∉ F.en.O → Sub S S' → StOk F.X.K F.en S' H' σ ρ ((p, .lst l) :: Γ) → Q (.ref p) H') (Xw F ρ Γ σ)) fun _ => False) →
        if b = true then eB F.X scope elt (setV (wipe σ (own.map (·.2))) is us) H5 fun y H4 => ∃ acc, H4 q = some (.lst acc) ∧ acc.length < sizeLine ∧
            (fun i H => ∃ l S2, Sub S1 S2 ∧ StOk F.X.K F.en S2 H σ ρ ((q, .lst l) :: Γ) ∧ (comp (ds.drop i) l (elM f mt me)).wp (fun l => ∀ p S' H', p ∉ F.en.O → Sub S S' → StOk F.X.K F.en S' H' σ ρ ((p, .lst l) :: Γ) → Q (.ref p) H') (Xw F ρ Γ σ)) (i + 1) (upd H4 q (.lst (acc ++ [y])))
          else (fun i H => ∃ l S2, Sub S1 S2 ∧ StOk F.X.K F.en S2 H σ ρ ((q, .lst l) :: Γ) ∧ (comp (ds.drop i) l (elM f mt me)).wp (fun l => ∀ p S' H', p ∉ F.en.O → Sub S S' → StOk F.X.K F.en S' H' σ ρ ((p, .lst l) :: Γ) → Q (.ref p) H') (Xw F ρ Γ σ)) (i + 1) H5 := fun b S5 H5 u5 s5 w6 => by
      have back : ∀ (S6 H6 : Hp) (l' : List D), Sub S3 S6 → Hg F.X.K F.en S6 H6 ((q, .lst l') :: Γ) → StOk F.X.K F.en S6 H6 σ ρ ((q, .lst l') :: Γ) := fun S6 H6 l' u6 g6 => ⟨g6, s3.sl.mono u6⟩
      cases b with
      | false =>
        rw [if_neg Bool.false_ne_true]
        exact ⟨l, S5, u2.trans (u3.trans u5), back S5 H5 l u5 s5.hg, w6⟩
      | true =>
        rw [if_pos rfl]
        intro s7 H7 C7 cl7 fp7
        refine hel xs s7 H7 C7 cl7 fp7 q l S5 H5 _ _ s5 (Res.wp_mono (Res.wp_bind w6) (fun y w7 v S8 H8 u8 s8 r8 => ?_) fun _ z => z.elim)
        obtain ⟨hl, w8⟩ := w7
        obtain ⟨_, _, o1, h5, vs1, rfl, rs1⟩ := s8.hg.ga.ce q _ List.mem_cons_self
        refine ⟨vs1, h5, by rw [reps_len rs1]; exact hl, l ++ [y], S8, u2.trans (u3.trans (u5.trans u8)), ?_, w8⟩
        exact back S8 _ _ (u5.trans u8) (s8.hg.write (i := 0) (c' := .lst (l ++ [y])) rfl ⟨_, rfl, reps_app rs1 (reps_one r8)⟩)
    cases ifs with
    | nil =>
      rcases hts xs s' H0 C cl fp q l with ⟨_, e2⟩ | ⟨c, e2, _⟩
      · rw [e2] at w5
        exact fin true S3 H3 (Sub.refl S3) s4 w5
      · cases e2
    | cons c r =>
      intro s7 H7 C7 cl7 fp7
      rcases hts xs s7 H7 C7 cl7 fp7 q l with ⟨e1, _⟩ | ⟨c', e1, ht'⟩
      · cases e1
      · cases e1
        exact ht' S3 H3 _ _ s4 (Res.wp_mono w5 (fun b w6 S5 H5 u5 s5 => fin b S5 H5 u5 s5 w6) fun _ z => z.elim)
  · rintro H2 ⟨l, S2, u2, s2, w2⟩
    rw [List.drop_length] at w2
    exact w2 q S2 H2 n (u1.trans u2) s2
theorem pg_gB {s : Shared} {H0 : Hp} {C : Addr} {cl : List (Str × Addr)} {fp : List Addr} {X : Cx} : PG (X.blk s H0 scope (compEnvC scope cl C X.env) fp) tg (gB X scope tg) := ⟨fun pins s' σ H v u Q I r h => (h s H0 C cl fp).run pins s' u I r⟩
theorem pe_eB {s : Shared} {H0 : Hp} {C : Addr} {cl : List (Str × Addr)} {fp : List Addr} {X : Cx} : PE (X.blk s H0 scope (compEnvC scope cl C X.env) fp) elt (eB X scope elt) := ⟨fun pins s' σ H Q I h => (h s H0 C cl fp).run pins s' I⟩
theorem pts_tB {s : Shared} {H0 : Hp} {C : Addr} {cl : List (Str × Addr)} {fp : List Addr} {X : Cx} (h : ifs = [] ∨ ∃ c, ifs = [c]) : PTs (X.blk s H0 scope (compEnvC scope cl C X.env) fp) ifs (tsB X scope ifs) := by
  rcases h with rfl | ⟨c, rfl⟩
  · exact pts_nil
  · exact pts_one ⟨fun pins s' σ H Q I h => (h s H0 C cl fp).run pins s' I⟩
theorem ef_lc (hc : F.X.calm = true) (hN : F.X.N.Nodup) (ok : BlkOk F.X.N F.X.env.scope scope own) (hi : Ei F ρ Γ tg iter mi)
    (ht : ∀ s H0 C cl fp, Tj (F.b s H0 scope C cl fp) tg f is) (hts : ∀ xs s H0 C cl fp q acc, TsB (F.b s H0 scope C cl fp) (setAll (wipeL ρ (own.map (·.2))) is xs) ((q, .lst acc) :: Γ) ifs (mt xs))
    (hel : ∀ xs s H0 C cl fp q acc, E (F.b s H0 scope C cl fp) (setAll (wipeL ρ (own.map (·.2))) is xs) ((q, .lst acc) :: Γ) elt (me xs)) (hio : ∀ i ∈ is, i ∈ own.map (·.2)) (hif : ifs = [] ∨ ∃ c, ifs = [c])
    (hs : ∀ x, foldedSetIterable iter F.X.env x = pure x := by intro _; rfl) :
    EF F ρ Γ Ce.lst (.ListComp elt [⟨tg, iter, ifs, 0⟩] scope pos) (mi.bind fun ds => comp ds [] (elM f mt me)) := fun S H σ Q s w => by
  obtain ⟨wi, pi, q⟩ := lc_W (own := own) (Q := Q) hi s ht hts hel hio w
  exact We.of (pe_lc hc hN pi ok (fun _ _ _ _ _ => pg_gB) (fun _ _ _ _ _ => pts_tB hif) (fun _ _ _ _ _ => pe_eB) hs) q
end
/-! ### items that are taken apart -/
def un1 {α : Type} (g : D → Res α) : List D → Res α
  | [a] => g a
  | _ => .stuck
def un2 {α : Type} (g : D → D → Res α) : List D → Res α
  | [a, b] => g a b
  | _ => .stuck
def un3 {α : Type} (g : D → D → D → Res α) : List D → Res α
  | [a, b, c] => g a b c
  | _ => .stuck
section
variable {F : Fr} {ρ : List Sl} {Γ : Ga} {e : Expr} {is : List Nat}
theorem E.stuck : E F ρ Γ e .stuck := fun _ _ _ _ _ w => w.elim
theorem T.stuck : T F ρ Γ e .stuck := fun _ _ _ _ _ w => w.elim
theorem el1 {g : D → Res D} {xs : List D} (h : ∀ a, E F (setAll ρ is [a]) Γ e (g a)) : E F (setAll ρ is xs) Γ e (un1 g xs) := match xs with
  | [a] => h a
  | [] => E.stuck
  | _ :: _ :: _ => E.stuck
theorem el2 {g : D → D → Res D} {xs : List D} (h : ∀ a b, E F (setAll ρ is [a, b]) Γ e (g a b)) : E F (setAll ρ is xs) Γ e (un2 g xs) := match xs with
  | [a, b] => h a b
  | [] => E.stuck
  | [_] => E.stuck
  | _ :: _ :: _ :: _ => E.stuck
theorem el3 {g : D → D → D → Res D} {xs : List D} (h : ∀ a b c, E F (setAll ρ is [a, b, c]) Γ e (g a b c)) : E F (setAll ρ is xs) Γ e (un3 g xs) := match xs with
  | [a, b, c] => h a b c
  | [] => E.stuck
  | [_] => E.stuck
  | [_, _] => E.stuck
  | _ :: _ :: _ :: _ :: _ => E.stuck
theorem ts0 {ρ : List Sl} : TsB F ρ Γ [] (.ok true) := .inl ⟨rfl, rfl⟩
theorem ts1 {g : D → Res Bool} {xs : List D} (h : ∀ a, T F (setAll ρ is [a]) Γ e (g a)) : TsB F (setAll ρ is xs) Γ [e] (un1 g xs) := match xs with
  | [a] => .inr ⟨e, rfl, h a⟩
  | [] => .inr ⟨e, rfl, T.stuck⟩
  | _ :: _ :: _ => .inr ⟨e, rfl, T.stuck⟩
theorem ts2 {g : D → D → Res Bool} {xs : List D} (h : ∀ a b, T F (setAll ρ is [a, b]) Γ e (g a b)) : TsB F (setAll ρ is xs) Γ [e] (un2 g xs) := match xs with
  | [a, b] => .inr ⟨e, rfl, h a b⟩
  | [] => .inr ⟨e, rfl, T.stuck⟩
  | [_] => .inr ⟨e, rfl, T.stuck⟩
  | _ :: _ :: _ :: _ => .inr ⟨e, rfl, T.stuck⟩
end
section
variable {τ τ' β κ : Type} {F : FrS} {o : τ → Al → List Sl × Ga} {o' : τ' → Al → List Sl × Ga} {ob : β → Al → List Sl × Ga} {oc : κ → Al → Ga} {ρ : List Sl} {Γ : Ga} {rest sts : List Stmt} {ks : List (List Stmt)} {pos : Pos} {is : List Nat} {e : Expr} {x : Str}
theorem SJ.stuck : SJ F o ob oc sts ks ρ Γ .stuck := fun _ _ _ _ _ w => w.elim
theorem sj1 {g : D → Res (Fl τ β κ)} {xs : List D} (h : ∀ a, SJ F o ob oc sts ks (setAll ρ is [a]) Γ (g a)) : SJ F o ob oc sts ks (setAll ρ is xs) Γ (un1 g xs) := match xs with
  | [a] => h a
  | [] => SJ.stuck
  | _ :: _ :: _ => SJ.stuck
theorem sj2 {g : D → D → Res (Fl τ β κ)} {xs : List D} (h : ∀ a b, SJ F o ob oc sts ks (setAll ρ is [a, b]) Γ (g a b)) : SJ F o ob oc sts ks (setAll ρ is xs) Γ (un2 g xs) := match xs with
  | [a, b] => h a b
  | [] => SJ.stuck
  | [_] => SJ.stuck
  | _ :: _ :: _ :: _ => SJ.stuck
theorem sj3 {g : D → D → D → Res (Fl τ β κ)} {xs : List D} (h : ∀ a b c, SJ F o ob oc sts ks (setAll ρ is [a, b, c]) Γ (g a b c)) : SJ F o ob oc sts ks (setAll ρ is xs) Γ (un3 g xs) := match xs with
  | [a, b, c] => h a b c
  | [] => SJ.stuck
  | [_] => SJ.stuck
  | [_, _] => SJ.stuck
  | _ :: _ :: _ :: _ :: _ => SJ.stuck
/-- y = [.. for ..], the list a cell from then on -/
theorem s_setLc {i : Nat} {pos' cpos : Pos} {tg iter elt : Expr} {ifs : List Expr} {scope : Scope} {own : List (Str × Nat)} {mi : Res (List D)} {f : D → Res (List D)} {mt : List D → Res Bool} {me : List D → Res D} {mr : List D → Res (Fl τ β κ)}
    (ok : BlkOk F.X.N F.X.env.scope scope own) (hi : Ei F.toFr ρ Γ tg iter mi)
    (ht : ∀ s H0 C cl fp, Tj (F.toFr.b s H0 scope C cl fp) tg f is) (hts : ∀ xs s H0 C cl fp q acc, TsB (F.toFr.b s H0 scope C cl fp) (setAll (wipeL ρ (own.map (·.2))) is xs) ((q, .lst acc) :: Γ) ifs (mt xs))
    (hel : ∀ xs s H0 C cl fp q acc, E (F.toFr.b s H0 scope C cl fp) (setAll (wipeL ρ (own.map (·.2))) is xs) ((q, .lst acc) :: Γ) elt (me xs)) (hio : ∀ i ∈ is, i ∈ own.map (·.2)) (hif : ifs = [] ∨ ∃ c, ifs = [c])
    (hr : ∀ c q, q ∉ F.en.O → SJ F o ob oc rest ks (ρ.set i (.at q)) ((q, .lst c) :: Γ) (mr c)) (hc : F.X.calm = true) (hN : F.X.N.Nodup) (ha : F.al ρ Γ) (hy : F.X.N[i]? = some x) (hyl : F.X.env.scope.names.lookup x = some .local)
    (hsw : swapsWith (.ListComp elt [⟨tg, iter, ifs, 0⟩] scope cpos) (some (.Name x pos')) pos.line F.X.env = pure true) (hs : ∀ x, foldedSetIterable iter F.X.env x = pure x := by intro _; rfl) :
    SJ F o ob oc (.Assign [.Name x pos'] (.ListComp elt [⟨tg, iter, ifs, 0⟩] scope cpos) pos :: rest) ks ρ Γ ((mi.bind fun ds => comp ds [] (elM f mt me)).bind mr) := fun S H σ D s w => by
  obtain ⟨wi, pi, q⟩ := lc_W (own := own) (Q := fun v H1 => gName i v σ H1 (WSs F.X rest { D with nx := Wks F.X ks D })) hi s ht hts hel hio (Res.wp_mono (Res.wp_bind w) (fun c w1 q S1 H1 n u1 s1 => (hr c q n).run ⟨s1.hg, s1.sl.set i rfl⟩ u1 w1) fun _ z => xw_of ha z)
  exact WSs.of (pss_cons (ps_setLc hc hN hy hyl hsw pi ok (fun _ _ _ _ _ => pg_gB) (fun _ _ _ _ _ => pts_tB hif) (fun _ _ _ _ _ => pe_eB) hs) pss_W) q
/-- a class of the text's errors -/
def KnX (K : PySem.W.Frag) (mg : Str → Option Value) (x : Str) : Prop := mg x = some (.ref (He.ga K x)) ∧ PySem.W.excIn K (He.ga K x) He.veBase "ValueError.__new__" = true ∧ PySem.W.keepIn K (.ref (He.ga K x)) = true ∧
  PySem.W.subIn K (.ref (He.ga K x)) (.type "BaseException") = some true ∧ PySem.W.typeIn K (.ref (He.ga K x)) = some (.type "type")
/-- raise X('..') -/
theorem s_raise {m : Str} {j : Nat} {p p2 cpos : Pos} (hx : KnX F.X.K F.X.mg x) (ha : F.al ρ Γ) (hc : F.X.calm = true) (hg : Gl F.X x := by rfl) (hd : (x == ("__debug__" : Str)) = false := by decide) :
    SJ F o ob oc (.Raise (some (.Call (.Name x p) [.Constant (.str m) j p2] [] cpos)) none pos :: rest) ks ρ Γ (.exc x) := fun S H σ D s w => by
  obtain ⟨gC, xP, kP, bP, tP⟩ := hx
  exact WSs.of (pss_cons (ps_raise hc F.tk (pmk_own PySem.F.excBase_ValueError xP gC kP (raises_own bP tP) hg hd)) (pss_never (sts := rest))) (w ρ Γ S H σ ha s)
end
/-! ### a def's arguments -/
def a0 (m : Me) : List D → Me
  | [] => m
  | _ => .stuck
def a1 (m : D → Me) : List D → Me
  | [a] => m a
  | _ => .stuck
def a2 (m : D → D → Me) : List D → Me
  | [a, b] => m a b
  | _ => .stuck
def a3 (m : D → D → D → Me) : List D → Me
  | [a, b, c] => m a b c
  | _ => .stuck
def a4 (m : D → D → D → D → Me) : List D → Me
  | [a, b, c, d] => m a b c d
  | _ => .stuck
def a5 (m : D → D → D → D → D → Me) : List D → Me
  | [a, b, c, d, e] => m a b c d e
  | _ => .stuck
def a6 (m : D → D → D → D → D → D → Me) : List D → Me
  | [a, b, c, d, e, f] => m a b c d e f
  | _ => .stuck
theorem a0_len {m} : ∀ ds : List D, ds.length ≠ 0 → a0 m ds = .stuck
  | [], h => absurd rfl h
  | _ :: _, _ => rfl
theorem a1_len {m} : ∀ ds : List D, ds.length ≠ 1 → a1 m ds = .stuck
  | [_], h => absurd rfl h
  | [], _ => rfl
  | _ :: _ :: _, _ => rfl
theorem a2_len {m} : ∀ ds : List D, ds.length ≠ 2 → a2 m ds = .stuck
  | [_, _], h => absurd rfl h
  | [], _ => rfl
  | [_], _ => rfl
  | _ :: _ :: _ :: _, _ => rfl
theorem a3_len {m} : ∀ ds : List D, ds.length ≠ 3 → a3 m ds = .stuck
  | [_, _, _], h => absurd rfl h
  | [], _ => rfl
  | [_], _ => rfl
  | [_, _], _ => rfl
  | _ :: _ :: _ :: _ :: _, _ => rfl
theorem a4_len {m} : ∀ ds : List D, ds.length ≠ 4 → a4 m ds = .stuck
  | [_, _, _, _], h => absurd rfl h
  | [], _ => rfl
  | [_], _ => rfl
  | [_, _], _ => rfl
  | [_, _, _], _ => rfl
  | _ :: _ :: _ :: _ :: _ :: _, _ => rfl
theorem a5_len {m} : ∀ ds : List D, ds.length ≠ 5 → a5 m ds = .stuck
  | [_, _, _, _, _], h => absurd rfl h
  | [], _ => rfl
  | [_], _ => rfl
  | [_, _], _ => rfl
  | [_, _, _], _ => rfl
  | [_, _, _, _], _ => rfl
  | _ :: _ :: _ :: _ :: _ :: _ :: _, _ => rfl
theorem a6_len {m} : ∀ ds : List D, ds.length ≠ 6 → a6 m ds = .stuck
  | [_, _, _, _, _, _], h => absurd rfl h
  | [], _ => rfl
  | [_], _ => rfl
  | [_, _], _ => rfl
  | [_, _, _], _ => rfl
  | [_, _, _, _], _ => rfl
  | [_, _, _, _, _], _ => rfl
  | _ :: _ :: _ :: _ :: _ :: _ :: _ :: _, _ => rfl
/-- a slot list's shape by its length -/
theorem len1 {α : Type} : ∀ {ds : List α}, ds.length = 1 → ∃ a, ds = [a]
  | [a], _ => ⟨a, rfl⟩
theorem len0 {α : Type} : ∀ {ds : List α}, ds.length = 0 → ds = []
  | [], _ => rfl
theorem len2 {α : Type} : ∀ {ds : List α}, ds.length = 2 → ∃ a b, ds = [a, b]
  | [a, b], _ => ⟨a, b, rfl⟩
theorem len3 {α : Type} : ∀ {ds : List α}, ds.length = 3 → ∃ a b c, ds = [a, b, c]
  | [a, b, c], _ => ⟨a, b, c, rfl⟩
theorem len4 {α : Type} : ∀ {ds : List α}, ds.length = 4 → ∃ a b c d, ds = [a, b, c, d]
  | [a, b, c, d], _ => ⟨a, b, c, d, rfl⟩
theorem len5 {α : Type} : ∀ {ds : List α}, ds.length = 5 → ∃ a b c d e, ds = [a, b, c, d, e]
  | [a, b, c, d, e], _ => ⟨a, b, c, d, e, rfl⟩
theorem len6 {α : Type} : ∀ {ds : List α}, ds.length = 6 → ∃ a b c d e f, ds = [a, b, c, d, e, f]
  | [a, b, c, d, e, f], _ => ⟨a, b, c, d, e, f, rfl⟩
/-! ### an __init__ that stores its arguments -/
end RL

/-! RL11: in, tables. -/
namespace RL
open PySem L2
section
variable {X : Cx}
theorem op_inDk (hu : X.A.units + 1 < cLine) : OpR X (compareOp .In) (fun x y H Q => ∃ a o, y = .ref a ∧ DGet H a x o ∧ Q (.bl ((fun c => c) o.isSome)) H) := by
  intro pins s σ H x y v u Q I rx ry h
  obtain ⟨a, o, rfl, g, q⟩ := h
  cases ry
  exact d_in hu I g rx fun s' I' => ⟨.bl o.isSome, H, I', rfl, q⟩
theorem op_ninDk (hu : X.A.units + 1 < cLine) : OpR X (compareOp .NotIn) (fun x y H Q => ∃ a o, y = .ref a ∧ DGet H a x o ∧ Q (.bl ((fun c => !c) o.isSome)) H) := by
  intro pins s σ H x y v u Q I rx ry h
  obtain ⟨a, o, rfl, g, q⟩ := h
  cases ry
  exact d_notIn hu I g rx fun s' I' => ⟨.bl (!o.isSome), H, I', rfl, q⟩
theorem opD_in (hu : X.A.units + 1 < cLine) : OpR X (compareOp .In) (rD X.K D.inn) :=
  opD_inB hu (g := fun c => c) op_in_seq (fun x y H Q p xs e h f1 f2 q => ⟨p, xs, e, h, f1, f2, by simpa using q⟩) op_in_str (fun i j H Q q => ⟨i, j, rfl, rfl, q⟩) (op_inDk hu)
theorem opD_nin (hu : X.A.units + 1 < cLine) : OpR X (compareOp .NotIn) (rD X.K D.nin) :=
  opD_inB hu (g := fun c => !c) op_notIn_seq (fun x y H Q p xs e h f1 f2 q => ⟨p, xs, e, h, f1, f2, by simpa using q⟩) op_notIn_str (fun i j H Q q => ⟨i, j, rfl, rfl, q⟩) (op_ninDk hu)
end
theorem KnM.mono {P : Program} {w : World} {K : PySem.W.Frag} {mg : Str → Option Value} {base : Heap} {c m : Str} {k k' : Nat} {G : List D → Res D} (h : KnM P w K mg base c m k G) (hk : k ≤ k') : KnM P w K mg base c m k' G := by
  obtain ⟨f, fd, ps, Fn, r⟩ := h
  exact ⟨f, fd, ps, Fn.mono hk, r⟩
theorem Kn.mono {P : Program} {w : World} {K : PySem.W.Frag} {mg : Str → Option Value} {base : Heap} {x : Str} {k k' : Nat} {G : List D → Res D} (h : Kn P w K mg base x k G) (hk : k ≤ k') : Kn P w K mg base x k' G := by
  obtain ⟨f, fd, ps, Fn, r⟩ := h
  exact ⟨f, fd, ps, Fn.mono hk, r⟩
theorem tb_nil {p : Str → Prop} : ∀ c ∈ ([] : List Str), p c := fun _ h => nomatch h
theorem tb_cons {K : PySem.W.Frag} {f c : Str} {r : List Str} (h : Cls K (He.ga K c)) (n : NoAttr K (He.ga K c) f) (t : ∀ c ∈ r, Cls K (He.ga K c) ∧ NoAttr K (He.ga K c) f) : ∀ c' ∈ c :: r, Cls K (He.ga K c') ∧ NoAttr K (He.ga K c') f := fun c' h' => by
  rcases List.mem_cons.mp h' with e | h'
  · subst e; exact ⟨h, n⟩
  · exact t c' h'
section
variable {P : Program} {w : World} {K : PySem.W.Frag} {mg : Str → Option Value} {base : Heap} {x qual : Str} {params : Arguments} {body : List Stmt} {scope : Scope} {f : Addr} {fd : FuncData} {N ps : List Str} {k : Nat}
theorem fn_mk0 (Fd : FunD K x qual params body scope [] [] f fd) (Sc : FnScope N ps scope) (m : Me) (r : List Sl) (hp : ps.length = 0) (hN : N.length = r.length + 0) (hu : r = List.replicate r.length .un)
    (hb : ∀ cdv A outer s H Er S0, Room k (A.deeper (PyProof.Rows.envOfC qual scope s.heap.objs.size f cdv)) → SJ (τ := Unit) (β := Empty) (κ := Unit) (frD P w K mg base N qual scope f cdv A outer s H Er S0) (o0 N.length) ob0 oc0 body [] (r) [] (m)) :
    FnOk P w K mg base (L2.CX P w) (k + 1) f fd ps (spD K fun ds => told (a0 m ds)) := by
  refine fn_mk Fd Sc (a0 m) (hp ▸ a0_len) (fun cdv A outer s H Er S0 ds hl hr => ?_)
  rw [hp] at hl
  obtain ⟨rfl⟩ := len0 hl
  have h := hb cdv A outer s H Er S0 hr
  rw [hu] at h
  have e : N.length - 0 = r.length := by omega
  show SJ _ _ _ _ _ _ (List.map Sl.is [] ++ List.replicate (N.length - 0) Sl.un) _ _
  rw [e]
  exact h
theorem fn_mk1 (Fd : FunD K x qual params body scope [] [] f fd) (Sc : FnScope N ps scope) (m : D → Me) (r : List Sl) (hp : ps.length = 1) (hN : N.length = r.length + 1) (hu : r = List.replicate r.length .un)
    (hb : ∀ cdv A outer s H Er S0, Room k (A.deeper (PyProof.Rows.envOfC qual scope s.heap.objs.size f cdv)) → ∀ x0 : D, SJ (τ := Unit) (β := Empty) (κ := Unit) (frD P w K mg base N qual scope f cdv A outer s H Er S0) (o0 N.length) ob0 oc0 body [] (.is x0 :: r) [] (m x0)) :
    FnOk P w K mg base (L2.CX P w) (k + 1) f fd ps (spD K fun ds => told (a1 m ds)) := by
  refine fn_mk Fd Sc (a1 m) (hp ▸ a1_len) (fun cdv A outer s H Er S0 ds hl hr => ?_)
  rw [hp] at hl
  obtain ⟨x0, rfl⟩ := len1 hl
  have h := hb cdv A outer s H Er S0 hr x0
  rw [hu] at h
  have e : N.length - 1 = r.length := by omega
  show SJ _ _ _ _ _ _ (List.map Sl.is [x0] ++ List.replicate (N.length - 1) Sl.un) _ _
  rw [e]
  exact h
theorem fn_mk2 (Fd : FunD K x qual params body scope [] [] f fd) (Sc : FnScope N ps scope) (m : D → D → Me) (r : List Sl) (hp : ps.length = 2) (hN : N.length = r.length + 2) (hu : r = List.replicate r.length .un)
    (hb : ∀ cdv A outer s H Er S0, Room k (A.deeper (PyProof.Rows.envOfC qual scope s.heap.objs.size f cdv)) → ∀ x0 x1 : D, SJ (τ := Unit) (β := Empty) (κ := Unit) (frD P w K mg base N qual scope f cdv A outer s H Er S0) (o0 N.length) ob0 oc0 body [] (.is x0 :: .is x1 :: r) [] (m x0 x1)) :
    FnOk P w K mg base (L2.CX P w) (k + 1) f fd ps (spD K fun ds => told (a2 m ds)) := by
  refine fn_mk Fd Sc (a2 m) (hp ▸ a2_len) (fun cdv A outer s H Er S0 ds hl hr => ?_)
  rw [hp] at hl
  obtain ⟨x0, x1, rfl⟩ := len2 hl
  have h := hb cdv A outer s H Er S0 hr x0 x1
  rw [hu] at h
  have e : N.length - 2 = r.length := by omega
  show SJ _ _ _ _ _ _ (List.map Sl.is [x0, x1] ++ List.replicate (N.length - 2) Sl.un) _ _
  rw [e]
  exact h
theorem fn_mk3 (Fd : FunD K x qual params body scope [] [] f fd) (Sc : FnScope N ps scope) (m : D → D → D → Me) (r : List Sl) (hp : ps.length = 3) (hN : N.length = r.length + 3) (hu : r = List.replicate r.length .un)
    (hb : ∀ cdv A outer s H Er S0, Room k (A.deeper (PyProof.Rows.envOfC qual scope s.heap.objs.size f cdv)) → ∀ x0 x1 x2 : D, SJ (τ := Unit) (β := Empty) (κ := Unit) (frD P w K mg base N qual scope f cdv A outer s H Er S0) (o0 N.length) ob0 oc0 body [] (.is x0 :: .is x1 :: .is x2 :: r) [] (m x0 x1 x2)) :
    FnOk P w K mg base (L2.CX P w) (k + 1) f fd ps (spD K fun ds => told (a3 m ds)) := by
  refine fn_mk Fd Sc (a3 m) (hp ▸ a3_len) (fun cdv A outer s H Er S0 ds hl hr => ?_)
  rw [hp] at hl
  obtain ⟨x0, x1, x2, rfl⟩ := len3 hl
  have h := hb cdv A outer s H Er S0 hr x0 x1 x2
  rw [hu] at h
  have e : N.length - 3 = r.length := by omega
  show SJ _ _ _ _ _ _ (List.map Sl.is [x0, x1, x2] ++ List.replicate (N.length - 3) Sl.un) _ _
  rw [e]
  exact h
theorem fn_mk4 (Fd : FunD K x qual params body scope [] [] f fd) (Sc : FnScope N ps scope) (m : D → D → D → D → Me) (r : List Sl) (hp : ps.length = 4) (hN : N.length = r.length + 4) (hu : r = List.replicate r.length .un)
    (hb : ∀ cdv A outer s H Er S0, Room k (A.deeper (PyProof.Rows.envOfC qual scope s.heap.objs.size f cdv)) → ∀ x0 x1 x2 x3 : D, SJ (τ := Unit) (β := Empty) (κ := Unit) (frD P w K mg base N qual scope f cdv A outer s H Er S0) (o0 N.length) ob0 oc0 body [] (.is x0 :: .is x1 :: .is x2 :: .is x3 :: r) [] (m x0 x1 x2 x3)) :
    FnOk P w K mg base (L2.CX P w) (k + 1) f fd ps (spD K fun ds => told (a4 m ds)) := by
  refine fn_mk Fd Sc (a4 m) (hp ▸ a4_len) (fun cdv A outer s H Er S0 ds hl hr => ?_)
  rw [hp] at hl
  obtain ⟨x0, x1, x2, x3, rfl⟩ := len4 hl
  have h := hb cdv A outer s H Er S0 hr x0 x1 x2 x3
  rw [hu] at h
  have e : N.length - 4 = r.length := by omega
  show SJ _ _ _ _ _ _ (List.map Sl.is [x0, x1, x2, x3] ++ List.replicate (N.length - 4) Sl.un) _ _
  rw [e]
  exact h
theorem fn_mk5 (Fd : FunD K x qual params body scope [] [] f fd) (Sc : FnScope N ps scope) (m : D → D → D → D → D → Me) (r : List Sl) (hp : ps.length = 5) (hN : N.length = r.length + 5) (hu : r = List.replicate r.length .un)
    (hb : ∀ cdv A outer s H Er S0, Room k (A.deeper (PyProof.Rows.envOfC qual scope s.heap.objs.size f cdv)) → ∀ x0 x1 x2 x3 x4 : D, SJ (τ := Unit) (β := Empty) (κ := Unit) (frD P w K mg base N qual scope f cdv A outer s H Er S0) (o0 N.length) ob0 oc0 body [] (.is x0 :: .is x1 :: .is x2 :: .is x3 :: .is x4 :: r) [] (m x0 x1 x2 x3 x4)) :
    FnOk P w K mg base (L2.CX P w) (k + 1) f fd ps (spD K fun ds => told (a5 m ds)) := by
  refine fn_mk Fd Sc (a5 m) (hp ▸ a5_len) (fun cdv A outer s H Er S0 ds hl hr => ?_)
  rw [hp] at hl
  obtain ⟨x0, x1, x2, x3, x4, rfl⟩ := len5 hl
  have h := hb cdv A outer s H Er S0 hr x0 x1 x2 x3 x4
  rw [hu] at h
  have e : N.length - 5 = r.length := by omega
  show SJ _ _ _ _ _ _ (List.map Sl.is [x0, x1, x2, x3, x4] ++ List.replicate (N.length - 5) Sl.un) _ _
  rw [e]
  exact h
theorem fn_mk6 (Fd : FunD K x qual params body scope [] [] f fd) (Sc : FnScope N ps scope) (m : D → D → D → D → D → D → Me) (r : List Sl) (hp : ps.length = 6) (hN : N.length = r.length + 6) (hu : r = List.replicate r.length .un)
    (hb : ∀ cdv A outer s H Er S0, Room k (A.deeper (PyProof.Rows.envOfC qual scope s.heap.objs.size f cdv)) → ∀ x0 x1 x2 x3 x4 x5 : D, SJ (τ := Unit) (β := Empty) (κ := Unit) (frD P w K mg base N qual scope f cdv A outer s H Er S0) (o0 N.length) ob0 oc0 body [] (.is x0 :: .is x1 :: .is x2 :: .is x3 :: .is x4 :: .is x5 :: r) [] (m x0 x1 x2 x3 x4 x5)) :
    FnOk P w K mg base (L2.CX P w) (k + 1) f fd ps (spD K fun ds => told (a6 m ds)) := by
  refine fn_mk Fd Sc (a6 m) (hp ▸ a6_len) (fun cdv A outer s H Er S0 ds hl hr => ?_)
  rw [hp] at hl
  obtain ⟨x0, x1, x2, x3, x4, x5, rfl⟩ := len6 hl
  have h := hb cdv A outer s H Er S0 hr x0 x1 x2 x3 x4 x5
  rw [hu] at h
  have e : N.length - 6 = r.length := by omega
  show SJ _ _ _ _ _ _ (List.map Sl.is [x0, x1, x2, x3, x4, x5] ++ List.replicate (N.length - 6) Sl.un) _ _
  rw [e]
  exact h
end
end RL

/-! RL12: the law's end. -/
namespace RL
open PySem L2
/-- the law's own promise: nothing is refused -/
def spL (K : PySem.W.Frag) (G : List D → Res D) : Sp := fun vs H Q _ => spD K G vs H Q fun _ _ _ => False
theorem FnOk.law {P : Program} {w : World} {K : PySem.W.Frag} {mg : Str → Option Value} {base : Heap} {k : Nat} {f : Addr} {fd : FuncData} {ps : List Str} {G : List D → Res D} (F : FnOk P w K mg base (L2.CX P w) k f fd ps (spD K G)) :
    FnOk P w K mg base CX0 k f fd ps (spL K G) := by
  refine ⟨fun vs H Q E q => F.len vs H Q _ q, fun A outer s H args us vs Q E hr he hb hv hs => ?_⟩
  refine codeAny_mono (F.run A outer s H args us vs Q _ hr he hb hv hs) fun r s' h => ?_
  cases r with
  | ok fl => cases fl <;> exact h
  | error e =>
    obtain ⟨_, _, _, _, _, _, _, _, _, _, _, _, z⟩ := h
    exact z.elim
theorem spD_law {K : PySem.W.Frag} {G : List D → Res D} (h : ∀ ns : List Int, ns.length ≤ 63 → G [.scr ns] = .ok (.bl true)) (H : Hp) (a : Addr) (ns : List Int) (hl : ns.length ≤ 63) (hS : SqL K H a (ns.map V.int)) : spL K G [.ref a] H (fun v _ => v = .bl true) fun _ _ _ => False := by
  refine ⟨H, [.scr ns], Sub.refl H, reps_one (by unfold rep; exact ⟨a, rfl, hS⟩), ?_⟩
  rw [h ns hl]
  intro v S' H' _ r
  exact rep_bl_eq r
/-- fuel for a while -/
def FU : Nat := 100000
end RL

/-! RL13: try, caught errors; more facts of the head. -/
namespace RL
open PySem L2
/-! ### more facts of the head -/
inductive Fx where
  | kit (x y : Str) (b : Bool) | kitT (x : Str) (T : String) (b : Bool) | excc (x : Str) | tup (x : Str) (vs : List He.Dv) | bare (x : Str) | insc (x : Str)
def ok3 (a : Option (Option Value)) (b : String) : Bool := decide (a = some (some (.builtin b)))
def Fx.ok (K : PySem.W.Frag) : Fx → Bool
  | .kit x y b => decide (PySem.W.kitOne K (.ref (He.ga K x)) (.ref (He.ga K y)) = some b)
  | .kitT x T b => decide (PySem.W.kitOne K (.ref (He.ga K x)) (.type T) = some b)
  | .excc x => ok3 (PySem.W.findIn K (.ref (He.ga K x)) "__getattribute__") "BaseException.__getattribute__" && (decide (PySem.W.findIn K (.ref (He.ga K x)) "__getattr__" = some none) && (decide (PySem.W.subIn K (.ref (He.ga K x)) (.type "BaseException") = some true) &&
    (PySem.W.hasDictIn K (He.ga K x) && (ok3 (PySem.W.findIn K (.ref (He.ga K x)) "__class__") "object.__class__" && (decide (PySem.W.specialIn K (.builtin "object.__class__") "__get__" = some (some (.builtin "getset_descriptor.__get__"))) &&
    (decide (PySem.W.takesIn K (.builtin "object.__class__") = some true) && decide (PySem.W.mroIn K (He.ga K x) (.type "object") = some true)))))))
  | .tup x vs => He.tupB K x vs
  | .bare x => PySem.W.makesIn K (He.ga K x) && (PySem.W.keepIn K (.ref (He.ga K x)) && ok3 (PySem.W.findIn K (.ref (He.ga K x)) "__init__") "object.__init__")
  | .insc x => ok3 (PySem.W.findIn K (.ref (He.ga K x)) "__class__") "object.__class__" && (decide (PySem.W.specialIn K (.builtin "object.__class__") "__get__" = some (some (.builtin "getset_descriptor.__get__"))) &&
    (decide (PySem.W.takesIn K (.builtin "object.__class__") = some true) && decide (PySem.W.mroIn K (He.ga K x) (.type "object") = some true)))
abbrev AlX : Type := He.AlD × Bool
def obsX (n : Nat) (fa : List He.Fa) (fn : List He.DefD) (fx : List Fx) (g : Addr → Option Obj) : AlX := (He.obsD fa fn (He.frG g (He.asD g n)), fx.all fun f => f.ok (He.frG g (He.asD g n)))
def hookX (n : Nat) (fa : List He.Fa) (fn : List He.DefD) (fx : List Fx) : PySem.W.Hook where
  α := AlX
  obs := fun s => obsX n fa fn fx s.heap.get?
  val := fun _ => (He.valD fn, true)
  says := fun _ h => ∃ K : PySem.W.Frag, K.In h ∧ He.SaysD fa fn K ∧ (fx.all fun f => f.ok K) = true
  of := fun _ s e => ⟨He.frG s.heap.get? (He.asD s.heap.get? n), He.frG_in, congrArg (fun z : AlX => z.1) e, congrArg (fun z : AlX => z.2) e⟩
  keeps := fun _ _ _ ⟨K, hK, c, d⟩ k => ⟨K, PySem.W.Frag.In.keeps hK k, c, d⟩
theorem obsX_eq {n : Nat} {fa : List He.Fa} {fn : List He.DefD} {fx : List Fx} {g : Addr → Option Obj} {s : Shared} (h : ∀ a, g a = s.heap.get? a) : obsX n fa fn fx g = (hookX n fa fn fx).obs s := by
  have e : g = s.heap.get? := funext h
  rw [e] <;> rfl
theorem fx_at {fx : List Fx} {K : PySem.W.Frag} (c : (fx.all fun f => f.ok K) = true) (i : Nat) {f : Fx} (h : fx[i]? = some f := by rfl) : f.ok K = true :=
  List.all_eq_true.mp c f (List.mem_of_getElem? h)
theorem kit_ok {K : PySem.W.Frag} {x y : Str} {b : Bool} (c : (Fx.kit x y b).ok K = true) : PySem.W.kitOne K (.ref (He.ga K x)) (.ref (He.ga K y)) = some b := of_decide_eq_true c
theorem kitT_ok {K : PySem.W.Frag} {x : Str} {T : String} {b : Bool} (c : (Fx.kitT x T b).ok K = true) : PySem.W.kitOne K (.ref (He.ga K x)) (.type T) = some b := of_decide_eq_true c
theorem excc_ok {K : PySem.W.Frag} {x : Str} (c : (Fx.excc x).ok K = true) : ExcC K (He.ga K x) := by
  obtain ⟨c1, c⟩ := He.ba c
  obtain ⟨c2, c⟩ := He.ba c
  obtain ⟨c3, c⟩ := He.ba c
  obtain ⟨c4, c⟩ := He.ba c
  obtain ⟨c5, c⟩ := He.ba c
  obtain ⟨c6, c⟩ := He.ba c
  obtain ⟨c7, c8⟩ := He.ba c
  exact ⟨of_decide_eq_true c1, of_decide_eq_true c2, of_decide_eq_true c3, c4, of_decide_eq_true c5, of_decide_eq_true c6, of_decide_eq_true c7, of_decide_eq_true c8⟩
/-! ### try -/
/-- what a try tells: the body's, or for a refusal the handler's -/
def tryM {τ β κ : Type} (m : Res (Fl τ β κ)) (h : Str → Res (Fl τ β κ)) : Res (Fl τ β κ) := match m with
  | .exc k => h k
  | r => r
/-- a clause: the classes that it names among those that may come -/
def hM {τ β κ : Type} (all yes : List Str) (m : Str → Res (Fl τ β κ)) (next : Str → Res (Fl τ β κ)) (k : Str) : Res (Fl τ β κ) := if k ∈ all then (if k ∈ yes then m k else next k) else .stuck
/-- a block that neither breaks nor goes on -/
def noB {τ β κ : Type} : Res (Fl τ Empty κ) → Res (Fl τ β κ)
  | .ok (.nx t) => .ok (.nx t)
  | .ok (.rt d c) => .ok (.rt d c)
  | .ok (.bk e) => nomatch e
  | .ok (.ct e) => nomatch e
  | .exc k => .exc k
  | .stuck => .stuck
section
variable {τ τ' β κ : Type} {F : FrS} {o : τ → Al → List Sl × Ga} {o' : τ' → Al → List Sl × Ga} {ob : β → Al → List Sl × Ga} {oc : κ → Al → Ga} {ρ : List Sl} {Γ : Ga} {rest : List Stmt} {ks : List (List Stmt)} {pos : Pos}
/-- the entry of a try's body -/
def enT (en : En) (S H : Hp) (Γ : Ga) : En := ⟨H, S, en.O ++ Γ.map (·.1)⟩
theorem aok_back {en : En} {S H : Hp} {Γ : Ga} {α : Al} (h : AOk (enT en S H Γ).O α) : AOk en.O α := fun k hk => h k (List.mem_append.mpr (.inl hk))
theorem Hg.into {K : PySem.W.Frag} {en : En} {S H : Hp} {Γ : Ga} (g : Hg K en S H Γ) : Hg K (enT en S H Γ) S H Γ := by
  refine ⟨⟨g.hp.sub, fun a o _ e => e, fun a o e => ⟨o, e⟩, fun p hp => ?_, Sub.refl S, fun a o e => .inl ⟨o, e⟩⟩, ⟨fun p c hm => ?_, g.ga.nd⟩⟩
  · rcases List.mem_append.mp hp with h | h
    · obtain ⟨u, hu⟩ := g.hp.oh p h
      exact g.hp.there p u hu
    · obtain ⟨⟨q, c⟩, hq, e⟩ := List.mem_map.mp h
      have e : q = p := e
      subst e
      obtain ⟨_, _, o, h3, _⟩ := g.ga.ce q c hq
      exact ⟨o, h3⟩
  · obtain ⟨h1, h2, h3⟩ := g.ga.ce p c hm
    exact ⟨h1, .inl (List.mem_append.mpr (.inr (List.mem_map.mpr ⟨(p, c), hm, rfl⟩))), h3⟩
theorem Hg.back {K : PySem.W.Frag} {en : En} {S H S' H' : Hp} {Γ Γ' : Ga} (g : Hg K en S H Γ) (g' : Hg K (enT en S H Γ) S' H' Γ') : Hg K en S' H' Γ' := by
  have hn : ∀ a, H a = none → en.H0 a = none := fun a e => by
    cases q : en.H0 a with
    | none => rfl
    | some u =>
      obtain ⟨u', h'⟩ := g.hp.there a u q
      rw [e] at h'; cases h'
  have hO : ∀ p, p ∈ (enT en S H Γ).O → p ∈ en.O ∨ en.H0 p = none := fun p hp => by
    rcases List.mem_append.mp hp with h | h
    · exact .inl h
    · obtain ⟨⟨q, c⟩, hq, e⟩ := List.mem_map.mp h
      have e : q = p := e
      subst e
      exact (g.ga.ce q c hq).2.1
  refine ⟨⟨g'.hp.sub, fun a o na e => ?_, fun a o e => ?_, g.hp.oh, g.hp.s0.trans g'.hp.s0, fun a o e => ?_⟩, ⟨fun p c hm => ?_, g'.ga.nd⟩⟩
  · have h := g.hp.keep a o na e
    refine g'.hp.keep a o (fun z => ?_) h
    rcases hO a z with z | z
    · exact na z
    · rw [z] at e; cases e
  · obtain ⟨u, h⟩ := g.hp.there a o e
    exact g'.hp.there a u h
  · rcases g'.hp.fresh a o e with ⟨u, h⟩ | h
    · exact g.hp.fresh a u h
    · exact .inr (hn a h)
  · obtain ⟨h1, h2, h3⟩ := g'.ga.ce p c hm
    refine ⟨h1, ?_, h3⟩
    rcases h2 with h2 | h2
    · exact hO p h2
    · exact .inr (hn p h2)
/-- the frame of a try's body: a refusal comes at the entry's state alone -/
abbrev FrS.tr (F : FrS) (ρ : List Sl) (Γ : Ga) (en : En) (pn : List (Addr × Obj)) (xe : Value → Shared → Prop) (W : WX) (tk : Takes (F.X.tr pn xe) W) : FrS :=
  { X := F.X.tr pn xe, W := W, en := en, tk := tk, al := fun ρ' Γ' => ρ' = ρ ∧ Γ' = Γ, rt := F.rt }
/-- the frame of an except suite -/
abbrev FrS.su (F : FrS) (a : Addr) (oe : Obj) (pn : List (Addr × Obj)) : FrS :=
  { X := F.X.suite a ((a, oe) :: pn), W := fun _ _ _ _ => False, en := F.en, tk := takes0, al := fun _ _ => True, rt := F.rt }
/-- one clause's promise -/
structure HdS (F : FrS) (o' : τ' → Al → List Sl × Ga) (oc : κ → Al → Ga) (ρ : List Sl) (Γ : Ga) (c : Str) (i : Option Nat) (suite : List Stmt) (all yes : List Str) (m : Str → Res (Fl τ' Empty κ)) : Prop where
  ex : ∀ k ∈ all, PySem.W.exmOne F.X.K (.ref (He.ga F.X.K k)) (.ref (He.ga F.X.K c)) = some (decide (k ∈ yes))
  su : ∀ k ∈ yes, ∀ a oe pn, Zc (.ref (He.ga F.X.K k)) none oe → (∃ vs, oe.data = .fields vs) → SJ (F.su a oe pn) o' ob0 oc suite [] (match i with
    | some i => ρ.set i (.at a)
    | none => ρ) Γ (m k)
/-- a handler tells no refusal -/
def noX {τ β κ : Type} : Res (Fl τ β κ) → Res (Fl τ β κ)
  | .exc _ => .stuck
  | r => r
theorem s_tryAs {c n : Str} {i : Nat} {body suite : List Stmt} {b₀ : Stmt} {np pos' : Pos} {all yes : List Str} {mb : Res (Fl τ' Empty κ)} {mh : Str → Res (Fl τ' Empty κ)} {mr : τ' → Res (Fl τ β κ)}
    (hb : ∀ en pn xe W tk, SJ (F.tr ρ Γ en pn xe W tk) o' ob0 oc body [] ρ Γ mb) (hh : HdS F o' oc ρ Γ c (some i) (b₀ :: suite) all yes mh) (hr : ∀ t α, AOk F.en.O α → SJ F o ob oc rest ks (o' t α).1 (o' t α).2 (mr t)) (hun : ∀ t α, (o' t α).1[i]? = some .un) (ha : F.al ρ Γ)
    (hc : F.X.mg c = some (.ref (He.ga F.X.K c))) (hN : F.X.N.Nodup) (hs : F.X.stack = F.X.env :: F.X.outer := by rfl) (hf : F.X.env.frame = some F.X.env.locals := by rfl) (hi : F.X.N[i]? = some n := by rfl) (hln : F.X.env.kindOf n = some .local := by rfl) (hg : Gl F.X c := by rfl) (hd : (c == ("__debug__" : Str)) = false := by decide) :
    SJ F o ob oc (.Try body [.ExceptHandler (some (.Name c np)) (some n) (b₀ :: suite) pos'] [] [] pos :: rest) ks ρ Γ (andThen (noB (tryM mb (hM all yes (fun k => noX (mh k)) Res.exc))) mr) := fun S H σ D s w => by
  refine WSs.of (pss_cons (ps_try_as (tb := fun W D σ H => ∀ pn xe (tk : Takes (F.X.tr pn xe) W), WSs (F.X.tr pn xe) body D σ H) (ts := fun a cls d D σ H => ∀ oe pn, Zc cls d oe → (∃ vs, oe.data = .fields vs) → WSs (F.X.suite a ((a, oe) :: pn)) (b₀ :: suite) D σ H)
    hs hf hN hi hln ⟨hg, hd, .inl hc⟩ F.tk (fun W pn xe tk _ => ⟨fun pins s σ H D I q => (q pn xe tk).run pins s I⟩) (fun a oe cls d pn hz hd => ⟨fun pins s σ H D I q => (q oe pn hz hd).run pins s I⟩)) pss_W) fun pn xe tk => ?_
  have s1 : StOk F.X.K (enT F.en S H Γ) S H σ ρ Γ := ⟨s.hg.into, s.sl⟩
  refine (hb (enT F.en S H Γ) pn xe _ tk).body (S := S) _ s1 (Sub.refl S) ?_
  cases q : mb with
  | stuck => rw [q] at w; exact w
  | ok fl =>
    rw [q] at w
    cases fl with
    | nx t => exact fun α hα S' H' σ' u' s' => (hr t α (aok_back hα)).run ⟨s.hg.back s'.hg, s'.sl⟩ u' w
    | rt d c => exact fun α v S' H' u' g' r' => w α v S' H' u' (s.hg.back g') r'
    | bk e => exact nomatch e
    | ct e => exact nomatch e
  | exc k =>
    rw [q] at w
    rintro ρ' Γ' S' H' σ' ⟨rfl, rfl⟩ s'
    have u' : Sub S S' := s'.hg.hp.s0
    have sb : StOk F.X.K F.en S' H' σ' ρ' Γ' := ⟨s.hg.back s'.hg, s'.sl⟩
    replace w : (andThen (noB (hM all yes (fun k => noX (mh k)) Res.exc k)) mr).wp (FlW F o ob oc S D) (Xs F) := w
    unfold hM at w
    split at w
    · rename_i hk
      refine ⟨_, hh.ex k hk, fun hy a na oe pn2 hz hd2 => ?_, fun hy => ?_⟩
      · have hy := of_decide_eq_true hy
        rw [if_pos hy] at w
        have s2 : StOk F.X.K F.en S' H' (σ'.set i (some (.ref a))) (ρ'.set i (.at a)) Γ' := ⟨sb.hg, sb.sl.set i rfl⟩
        refine (hh.su k hy a oe pn2 hz hd2).body (S := S) _ s2 u' ?_
        replace w : (andThen (noB (noX (mh k))) mr).wp (FlW F o ob oc S D) (Xs F) := w
        cases q2 : mh k with
        | stuck => rw [q2] at w; exact w
        | exc k2 => rw [q2] at w; exact w.elim
        | ok fl =>
          rw [q2] at w
          cases fl with
          | nx t =>
            intro α hα S2 H2 σ2 u2 s3
            have e : (o' t α).1.set i .un = (o' t α).1 := set_self (hun t α)
            exact (hr t α hα).run ⟨s3.hg, by rw [← e]; exact s3.sl.set i trivial⟩ u2 w
          | rt d c => exact fun α v S2 H2 u2 g2 r2 => w α v S2 H2 u2 g2 r2
          | bk e => exact nomatch e
          | ct e => exact nomatch e
      · have hy := of_decide_eq_false hy
        rw [if_neg hy] at w
        exact w ρ' Γ' S' H' σ' ha sb
    · exact w.elim
/-- several clauses -/
inductive HdsS (F : FrS) (o' : τ' → Al → List Sl × Ga) (oc : κ → Al → Ga) (ρ : List Sl) (Γ : Ga) (all : List Str) : List ExceptHandler → (Str → Res (Fl τ' Empty κ)) → Prop
  | nil : HdsS F o' oc ρ Γ all [] Res.exc
  | cons {c : Str} {b₀ : Stmt} {suite : List Stmt} {np pos' : Pos} {yes : List Str} {mh next : Str → Res (Fl τ' Empty κ)} {hds : List ExceptHandler} (h : HdS F o' oc ρ Γ c none (b₀ :: suite) all yes mh) (hc : F.X.mg c = some (.ref (He.ga F.X.K c))) (hg : Gl F.X c) (hd : (c == ("__debug__" : Str)) = false) (r : HdsS F o' oc ρ Γ all hds next) :
      HdsS F o' oc ρ Γ all (.ExceptHandler (some (.Name c np)) none (b₀ :: suite) pos' :: hds) (hM all yes (fun k => noX (mh k)) next)
theorem HdsS.ok {all : List Str} {hds : List ExceptHandler} {m : Str → Res (Fl τ' Empty κ)} (h : HdsS F o' oc ρ Γ all hds m) (hr : ∀ (t : τ') (m : Res (Fl τ β κ)), True) : ∃ l, HdsOk F.X hds l ∧
    ∀ (S S' H' : Hp) (σ' : St) (k : Str) (D : Ends), F.al ρ Γ → Sub S S' → StOk F.X.K F.en S' H' σ' ρ Γ → (m k).wp (FlW F o' ob0 oc S D) (Xs F) → wMany F.X.K F.W D l (.ref (He.ga F.X.K k)) none σ' H' := by
  induction h with
  | nil => exact ⟨[], .nil, fun S S' H' σ' k D ha u s w => w ρ Γ S' H' σ' ha s⟩
  | @cons c b₀ suite np pos' yes mh next hds h hc hg hd r ih =>
    obtain ⟨l, h1, h2⟩ := ih
    refine ⟨(.ref (He.ga F.X.K c), fun a cls d D σ H => ∀ oe pn, Zc cls d oe → (∃ vs, oe.data = .fields vs) → WSs (F.X.suite a ((a, oe) :: pn)) (b₀ :: suite) D σ H) :: l,
      .cons ⟨hg, hd, .inl hc⟩ (fun a oe cls d pn hz hd => ⟨fun pins s σ H D I q => (q oe pn hz hd).run pins s I⟩) h1, fun S S' H' σ' k D ha u s w => ?_⟩
    unfold hM at w
    split at w
    · rename_i hk
      refine ⟨_, h.ex k hk, fun hy a na oe pn2 hz hd2 => ?_, fun hy => ?_⟩
      · have hy := of_decide_eq_true hy
        rw [if_pos hy] at w
        obtain ⟨d1, d2, d3, d4⟩ := D
        refine (h.su k hy a oe pn2 hz hd2).body (S := S) _ s u ?_
        replace w : (noX (mh k)).wp (FlW F o' ob0 oc S ⟨d1, d2, d3, d4⟩) (Xs F) := w
        cases q2 : mh k with
        | stuck => rw [q2] at w; exact w
        | exc k2 => rw [q2] at w; exact w.elim
        | ok fl => rw [q2] at w; exact w
      · have hy := of_decide_eq_false hy
        rw [if_neg hy] at w
        exact h2 S S' H' σ' k D ha u s w
    · exact w.elim
theorem s_tryM {body : List Stmt} {h₀ : ExceptHandler} {hds : List ExceptHandler} {all : List Str} {mb : Res (Fl τ' Empty κ)} {mh : Str → Res (Fl τ' Empty κ)} {mr : τ' → Res (Fl τ β κ)}
    (hb : ∀ en pn xe W tk, SJ (F.tr ρ Γ en pn xe W tk) o' ob0 oc body [] ρ Γ mb) (hh : HdsS F o' oc ρ Γ all (h₀ :: hds) mh) (hr : ∀ t α, AOk F.en.O α → SJ F o ob oc rest ks (o' t α).1 (o' t α).2 (mr t)) (ha : F.al ρ Γ)
    (hs : F.X.stack = F.X.env :: F.X.outer := by rfl) (hf : F.X.env.frame = some F.X.env.locals := by rfl) :
    SJ F o ob oc (.Try body (h₀ :: hds) [] [] pos :: rest) ks ρ Γ (andThen (noB (tryM mb mh)) mr) := fun S H σ D s w => by
  obtain ⟨l, hl, hw⟩ := hh.ok (τ := τ) (β := β) fun _ _ => trivial
  refine WSs.of (pss_cons (ps_try_many (tb := fun W D σ H => ∀ pn xe (tk : Takes (F.X.tr pn xe) W), WSs (F.X.tr pn xe) body D σ H) hs hf F.tk (fun W pn xe tk _ => ⟨fun pins s σ H D I q => (q pn xe tk).run pins s I⟩) hl) pss_W) fun pn xe tk => ?_
  have s1 : StOk F.X.K (enT F.en S H Γ) S H σ ρ Γ := ⟨s.hg.into, s.sl⟩
  have fin : ∀ m : Res (Fl τ' Empty κ), (andThen (noB m) mr).wp (FlW F o ob oc S D) (Xs F) → m.wp (FlW F o' ob0 oc S { D with nx := WSs F.X rest { D with nx := Wks F.X ks D } }) (Xs F) := fun m w => by
    cases m with
    | stuck => exact w
    | exc k => exact w
    | ok fl =>
      cases fl with
      | nx t => exact fun α hα S' H' σ' u' s' => (hr t α hα).run s' u' w
      | rt d c => exact w
      | bk e => exact nomatch e
      | ct e => exact nomatch e
  refine (hb (enT F.en S H Γ) pn xe _ tk).body (S := S) _ s1 (Sub.refl S) ?_
  cases q : mb with
  | stuck => rw [q] at w; exact w
  | ok fl =>
    rw [q] at w
    cases fl with
    | nx t => exact fun α hα S' H' σ' u' s' => (hr t α (aok_back hα)).run ⟨s.hg.back s'.hg, s'.sl⟩ u' w
    | rt d c => exact fun α v S' H' u' g' r' => w α v S' H' u' (s.hg.back g') r'
    | bk e => exact nomatch e
    | ct e => exact nomatch e
  | exc k =>
    rw [q] at w
    rintro ρ' Γ' S' H' σ' ⟨rfl, rfl⟩ s'
    exact hw S S' H' σ' k _ ha s'.hg.hp.s0 ⟨s.hg.back s'.hg, s'.sl⟩ (fin (mh k) w)
end
theorem al_nil {f : Str → Option Bool} {yes : List Str} : ∀ k ∈ ([] : List Str), f k = some (decide (k ∈ yes)) := fun _ h => nomatch h
theorem al_cons {f : Str → Option Bool} {yes : List Str} {k : Str} {l : List Str} {b : Bool} (h : f k = some b) (r : ∀ k ∈ l, f k = some (decide (k ∈ yes))) (hb : decide (k ∈ yes) = b := by decide +kernel) : ∀ k' ∈ k :: l, f k' = some (decide (k' ∈ yes)) := fun k' h' => by
  rcases List.mem_cons.mp h' with e | h'
  · subst e; rw [hb]; exact h
  · exact r k' h'
theorem ex_nil {K : PySem.W.Frag} : ∀ k ∈ ([] : List Str), ExcC K (He.ga K k) := fun _ h => nomatch h
theorem ex_cons {K : PySem.W.Frag} {k : Str} {l : List Str} (h : ExcC K (He.ga K k)) (r : ∀ k ∈ l, ExcC K (He.ga K k)) : ∀ k' ∈ k :: l, ExcC K (He.ga K k') := fun k' h' => by
  rcases List.mem_cons.mp h' with e | h'
  · subst e; exact h
  · exact r k' h'
section
variable {F : FrS} {ρ : List Sl} {Γ : Ga} {a : Addr} {oe : Obj} {pn : List (Addr × Obj)} {k n C : Str} {all yes : List Str} {p p2 p3 pos : Pos}
/-- isinstance(e, C), e the refusal caught -/
theorem e_isE (i : Nat) (hs : ρ[i]? = some (.at a)) (hz : Zc (.ref (He.ga F.X.K k)) none oe) (hf : ∃ vs, oe.data = .fields vs) (hk : k ∈ all) (hec : ∀ k ∈ all, ExcC F.X.K (He.ga F.X.K k))
    (hkit : ∀ k ∈ all, PySem.W.kitOne F.X.K (.ref (He.ga F.X.K k)) (.ref (He.ga F.X.K C)) = some (decide (k ∈ yes))) (hC : F.X.mg C = some (.ref (He.ga F.X.K C))) (hm : F.X.mg "isinstance" = none)
    (hN : F.X.N[i]? = some n := by rfl) (hv : Vis F.X.env.scope n := by first | exact Or.inl rfl | exact Or.inr (Or.inl rfl) | exact Or.inr (Or.inr rfl)) (hg : Gl F.X "isinstance" := by rfl) (hg2 : Gl F.X C := by rfl)
    (h1 : (n == ("__debug__" : Str)) = false := by decide) (h2 : (n == ("__classdict__" : Str)) = false := by decide) (hd : (C == ("__debug__" : Str)) = false := by decide)
    (hb : bootBuiltins "isinstance" = some (.builtin "isinstance") := by decide +kernel)
    (s1 : starEach (.Name n p2 :: [.Name C p3]) F.X.env = (false, eval (.Name n p2) F.X.env) :: starEach [.Name C p3] F.X.env := by rfl) (s2 : starEach (.Name C p3 :: []) F.X.env = (false, eval (.Name C p3) F.X.env) :: starEach [] F.X.env := by rfl)
    (hpl : (backTo pos (starEach [.Name C p3] F.X.env)).any (·.1) = false := by rfl) :
    E (F.su a oe pn).toFr ρ Γ (.Call (.Name "isinstance" p) [.Name n p2, .Name C p3] [] pos) (.ok (.bl (decide (k ∈ yes)))) := fun S H σ Q s w => by
  obtain ⟨ov, e, h⟩ := s.sl.get hs
  have h : ov = some (.ref a) := h
  subst h
  exact We.of (pe_callB (call_isE (hec k hk) hz hf) hg hm hb (pa_cons (pe_var hN hv h1 h2) (pa_cons (pe_glob (v := .ref (He.ga F.X.K C)) hg2 hC rfl hd) pa_nil s2) s1) (by decide) (by decide) s1 hpl)
    ⟨.ref a, e, .ref (He.ga F.X.K C), .ref (He.ga F.X.K C), decide (k ∈ yes), rfl, fun _ z => z, hkit k hk, w _ S H (Sub.refl S) s rep_bl⟩
/-- isinstance(e, ValueError) -/
theorem e_isV {T : String} (i : Nat) (hs : ρ[i]? = some (.at a)) (hz : Zc (.ref (He.ga F.X.K k)) none oe) (hf : ∃ vs, oe.data = .fields vs) (hk : k ∈ all) (hec : ∀ k ∈ all, ExcC F.X.K (He.ga F.X.K k))
    (hkit : ∀ k ∈ all, PySem.W.kitOne F.X.K (.ref (He.ga F.X.K k)) (.type T) = some (decide (k ∈ yes))) (hC : F.X.mg C = none) (hm : F.X.mg "isinstance" = none) (hv2 : bootBuiltins C = some (.type T) := by decide +kernel)
    (hN : F.X.N[i]? = some n := by rfl) (hv : Vis F.X.env.scope n := by first | exact Or.inl rfl | exact Or.inr (Or.inl rfl) | exact Or.inr (Or.inr rfl)) (hg : Gl F.X "isinstance" := by rfl) (hg2 : Gl F.X C := by rfl)
    (h1 : (n == ("__debug__" : Str)) = false := by decide) (h2 : (n == ("__classdict__" : Str)) = false := by decide) (hd : (C == ("__debug__" : Str)) = false := by decide) (hn : C ≠ "__name__" := by decide)
    (hb : bootBuiltins "isinstance" = some (.builtin "isinstance") := by decide +kernel)
    (s1 : starEach (.Name n p2 :: [.Name C p3]) F.X.env = (false, eval (.Name n p2) F.X.env) :: starEach [.Name C p3] F.X.env := by rfl) (s2 : starEach (.Name C p3 :: []) F.X.env = (false, eval (.Name C p3) F.X.env) :: starEach [] F.X.env := by rfl)
    (hpl : (backTo pos (starEach [.Name C p3] F.X.env)).any (·.1) = false := by rfl) :
    E (F.su a oe pn).toFr ρ Γ (.Call (.Name "isinstance" p) [.Name n p2, .Name C p3] [] pos) (.ok (.bl (decide (k ∈ yes)))) := fun S H σ Q s w => by
  obtain ⟨ov, e, h⟩ := s.sl.get hs
  have h : ov = some (.ref a) := h
  subst h
  exact We.of (pe_callB (call_isE (hec k hk) hz hf) hg hm hb (pa_cons (pe_var hN hv h1 h2) (pa_cons (pe_bltn (v := .ty T) hg2 hC hv2 rfl hn hd) pa_nil s2) s1) (by decide) (by decide) s1 hpl)
    ⟨.ref a, e, .ty T, .type T, decide (k ∈ yes), rfl, fun _ z => z, hkit k hk, w _ S H (Sub.refl S) s rep_bl⟩
end
end RL

/-! RL14: is with truths, bit_length, list of a range, list of a reversed list. -/
namespace RL
open PySem L2
namespace D
def isB : D → D → Res D
  | .bl a, .bl c => b (a == c)
  | _, _ => .stuck
def isnB : D → D → Res D
  | .bl a, .bl c => b (a != c)
  | _, _ => .stuck
def bits : D → Res D
  | .int i => .ok (.int (Builtin.Int.intBits i : Nat))
  | _ => .stuck
def rngL : D → Res (List D)
  | .int n => if 0 ≤ n ∧ n ≤ 16777216 then .ok (rng 0 n.toNat) else .stuck
  | _ => .stuck
def rngL2 : D → D → Res (List D)
  | .int m, .int n => if 0 ≤ m ∧ m ≤ 16777216 ∧ 0 ≤ n ∧ n ≤ 16777216 then .ok (rng m (n - m).toNat) else .stuck
  | _, _ => .stuck
end D
section
variable {X : Cx}
theorem opD_isB : OpR X (compareOp .Is) (rD X.K D.isB) := by
  intro pins s σ H x y v u Q I rx ry hh
  obtain ⟨en, S, Γ, R, d, e, hg, rd, re, w⟩ := hh
  unfold D.isB at w
  split at w
  · rw [srep_bl rd] at rx; rw [srep_bl re] at ry
    cases rx; cases ry
    exact PyProof.Rows.is_bool ⟨.bl _, H, I, rfl, w _ S H (Sub.refl S) hg rep_bl⟩
  · exact w.elim
theorem opD_isnB : OpR X (compareOp .IsNot) (rD X.K D.isnB) := by
  intro pins s σ H x y v u Q I rx ry hh
  obtain ⟨en, S, Γ, R, d, e, hg, rd, re, w⟩ := hh
  unfold D.isnB at w
  split at w
  · rw [srep_bl rd] at rx; rw [srep_bl re] at ry
    cases rx; cases ry
    exact PyProof.Rows.isnot_bool ⟨.bl _, H, I, rfl, w _ S H (Sub.refl S) hg rep_bl⟩
  · exact w.elim
end
section
variable {F : Fr} {ρ : List Sl} {Γ : Ga} {o a b : Expr} {pos p p2 pos2 apos : Pos} {ma mb : Res D}
theorem e_bits (ho : E F ρ Γ o ma) (hbase : attributeBase o "bit_length" F.X.env (eval o F.X.env) = eval o F.X.env := by rfl) (hline : (apos.endLine == pos.line) = true := by rfl) : E F ρ Γ (.Call (.Attribute o "bit_length" apos) [] [] pos) (ma.bind D.bits) := fun S H σ Q s w =>
  We.of (pe_bits pe_We hbase hline) (ho.go s w fun d v S1 H1 u1 s1 r1 w1 => by
    unfold D.bits at w1; split at w1
    · exact ⟨_, rep_int_eq r1, w1 _ S1 H1 u1 s1 rep_int⟩
    · exact w1.elim)
theorem rgV_rng (m n : Int) : reps F.X.K (fun _ => none) (D.rng m (n - m).toNat) (rgV m n) := by
  have e : rgV m n = ((List.range (n - m).toNat).map fun (i : Nat) => m + (i : Int)).map V.int := by
    unfold rgV
    rw [List.map_map]; rfl
  have e2 : D.rng m (n - m).toNat = ((List.range (n - m).toNat).map fun (i : Nat) => m + (i : Int)).map D.int := by
    unfold D.rng
    rw [List.map_map]; rfl
  rw [e, e2]
  exact reps_ints
theorem reps_emp {K : PySem.W.Frag} {S : Hp} {l : List D} {vs : List V} (r : reps K (fun _ => none) l vs) : reps K S l vs := reps_mono sub_emp _ _ r
/-- list(range(n)) -/
theorem ef_listRg (hc : F.X.calm = true) (hm : F.X.mg "list" = none) (hm2 : F.X.mg "range" = none) (ha : E F ρ Γ a ma) (hg : Gl F.X "list" := by rfl) (hg2 : Gl F.X "range" := by rfl)
    (na : starEach [a] F.X.env = (false, eval a F.X.env) :: starEach [] F.X.env := by rfl) (nb : starEach [.Call (.Name "range" p2) [a] [] pos2] F.X.env = (false, eval (.Call (.Name "range" p2) [a] [] pos2) F.X.env) :: starEach [] F.X.env := by rfl) :
    EF F ρ Γ Ce.lst (.Call (.Name "list" p) [.Call (.Name "range" p2) [a] [] pos2] [] pos) (ma.bind D.rngL) := fun S H σ Q s w =>
  We.of (pe_listRg hc hg hm (prg_1 hg2 hm2 pe_We na) nb) (ha.go s w fun d v S1 H1 u1 s1 r1 w1 => by
    unfold D.rngL at w1; split at w1
    · rename_i n
      split at w1
      · rename_i hn
        refine ⟨n, rep_int_eq r1, RgOk.of_le (by omega) hn.2 (by omega) hn.1, fun q hq => ?_⟩
        have e : (n - 0).toNat = n.toNat := by omega
        have rr := rgV_rng (F := F) 0 n
        rw [e] at rr
        exact w1 q S1 _ (s1.hg.no hq) u1 (s1.own hq ⟨_, rfl, reps_emp rr⟩)
      · exact w1.elim
    · exact w1.elim)
/-- list(range(m, n)) -/
theorem ef_listRg2 (hc : F.X.calm = true) (hm : F.X.mg "list" = none) (hm2 : F.X.mg "range" = none) (ha : E F ρ Γ a ma) (hb : E F ρ Γ b mb) (hg : Gl F.X "list" := by rfl) (hg2 : Gl F.X "range" := by rfl)
    (na : starEach [a, b] F.X.env = (false, eval a F.X.env) :: starEach [b] F.X.env := by rfl) (nb2 : starEach [b] F.X.env = (false, eval b F.X.env) :: starEach [] F.X.env := by rfl) (hp : (backTo pos2 (starEach [b] F.X.env)).any (·.1) = false := by rfl)
    (nb : starEach [.Call (.Name "range" p2) [a, b] [] pos2] F.X.env = (false, eval (.Call (.Name "range" p2) [a, b] [] pos2) F.X.env) :: starEach [] F.X.env := by rfl) :
    EF F ρ Γ Ce.lst (.Call (.Name "list" p) [.Call (.Name "range" p2) [a, b] [] pos2] [] pos) (ma.bind fun x => mb.bind fun y => D.rngL2 x y) := fun S H σ Q s w =>
  We.of (pe_listRg hc hg hm (prg_2 hg2 hm2 pe_We pe_We na nb2 hp) nb) (ha.go s w fun d v S1 H1 u1 s1 r1 w1 => hb.go s1 w1 fun d2 v2 S2 H2 u2 s2 r2 w2 => by
    unfold D.rngL2 at w2; split at w2
    · rename_i m n
      split at w2
      · rename_i hn
        refine ⟨m, n, rep_int_eq r1, rep_int_eq r2, RgOk.of_le hn.1 hn.2.2.2 hn.2.1 hn.2.2.1, fun q hq => ?_⟩
        exact w2 q S2 _ (s2.hg.no hq) (u1.trans u2) (s2.own hq ⟨_, rfl, reps_emp (rgV_rng (F := F) m n)⟩)
      · exact w2.elim
    · exact w2.elim)
end
end RL

/-! RL15: list(reversed(a list)). -/
namespace RL
open PySem PySem.Spec PyProof.Rows L2 RT
section
variable {prog : Program} {w : World} {A : Around} {E : Value → Shared → Prop} {s : Shared}
theorem ext_rev {R : Result → Shared → Prop} {it l : Addr} {items : Array Value} (hh : A.handled = none) (hit : s.heap.IsRevIter it l ((items.size : Int) - 1)) (hl : s.heap.IsList l items) (hne : l ≠ it) (hn : items.size ≤ sizeLine)
    (Z : Addr) (c0 : Nat) (hZ : s.heap.get? Z = some { cls := .type "list", data := .seq #[] c0 }) (hZi : Z ≠ it) (hZl : Z ≠ l) (res : Value)
    (hR : ∀ h' tk acc c', (∀ b o, b ≠ Z → b ≠ it → s.heap.get? b = some o → h'.get? b = some o) → h'.get? Z = some { cls := .type "list", dict := none, data := .seq acc c', slots := #[] } →
      ItemsOf (fun i v => items[items.size - 1 - i]? = some v) acc items.size → R (.ok (.ret res)) { s with heap := h', toks := tk }) :
    wpAny (model prog w) A.in1 (Builtin.List.listExtendWith (.ref Z) (.ref it) res)
      (fun fin s' => match fin with | .done f => R (.ok f) s' | .again c' => c'.quiet = true ∧ codeAny (model prog w) A c' R s') (fun e s' => R (.error e) s') s := by
  have Wr := (Walks.listRev (prog := prog) (w := w) (A := A.in1) hh it l hne items).toS
  have fpn : Z ∉ [it, l] := by simp only [List.mem_cons, List.not_mem_nil, or_false, not_or]; exact ⟨hZi, hZl⟩
  have ty : s.TypeIs (.ref it) "list_reverseiterator" := hit.typeIs
  have nsame : Builtin.List.listSameRef (.ref Z) (.ref it) = false := by simp [Builtin.List.listSameRef, hZi]
  unfold Builtin.List.listExtendWith
  refine wpAny_bind (wpAny_typeOf ty ?_)
  rw [if_neg (by rw [nsame]; decide)]
  refine wpAny_bind (wpAny_pyIter_revIter hit ?_); refine wpAny_bind (wpAny_holding ?_)
  unfold Builtin.List.listLengthHint
  refine wpAny_bind (wpAny_specialOf ty nolen_lri ?_)
  show wpAny _ A.in1 (specialOf (.ref it) (Str.ofString "__length_hint__") >>= _) _ _ _
  refine wpAny_bind (wpAny_specialOf ty hint_lri ?_)
  generalize hd : ("list_reverseiterator.__length_hint__" : String) = idn
  wp_delta
  rw [show splitId idn = some ("list_reverseiterator", "__length_hint__") from by subst hd; decide +kernel]
  subst hd
  refine wpAny_bind (wpAny_isInstance (b := true) ty (by rw [isSubtype_type]; kernel_rfl) ?_); refine wpAny_pure ?_
  rw [if_neg (by decide)]
  have z0 : ((items.size : Nat) : Int) - 1 - ((0 : Nat) : Int) = (items.size : Int) - 1 := by omega
  refine wpAny_pure ⟨plainId_quiet F.plain_extend_loop _, codeAny_extend_loopS Wr hn _ fpn _ items.size 0 _ _ _ rfl (Nat.zero_le _) ⟨Nat.zero_le _, by rw [z0]; exact hit, hl⟩ hZ (ItemsOf.nil _) fun t acc c' hm hS' hacc => ?_⟩
  rw [Moved.eq_with hm]
  refine hR t.heap t.toks acc c' (fun b o hb hb2 e => hm.heap b o (fun mem => ?_) e) hS' hacc
  rcases List.mem_cons.mp mem with e' | mem
  · exact hb e'
  · exact hb2 (List.mem_singleton.mp mem)
theorem init_rev {R : Result → Shared → Prop} {it l : Addr} {items : Array Value} (hh : A.handled = none) (hit : s.heap.IsRevIter it l ((items.size : Int) - 1)) (hl : s.heap.IsList l items) (hne : l ≠ it) (hn : items.size ≤ sizeLine)
    (Z : Addr) (hZ : s.heap.get? Z = some { cls := .type "list", data := .seq #[] }) (hZi : Z ≠ it) (hZl : Z ≠ l)
    (hR : ∀ h' tk acc c', (∀ b o, b ≠ Z → b ≠ it → s.heap.get? b = some o → h'.get? b = some o) → h'.get? Z = some { cls := .type "list", dict := none, data := .seq acc c', slots := #[] } →
      ItemsOf (fun i v => items[items.size - 1 - i]? = some v) acc items.size → R (.ok (.ret .none)) { s with heap := h', toks := tk }) :
    wpAny (model prog w) A.in1 (Builtin.«list.__init__» ⟨[.ref Z, .ref it], []⟩)
      (fun fin s' => match fin with | .done f => R (.ok f) s' | .again c' => c'.quiet = true ∧ codeAny (model prog w) A c' R s') (fun e s' => R (.error e) s') s := by
  show wpAny _ _ (do let old ← Builtin.List.listItems (.ref Z); Builtin.List.listUpdate (.ref Z) (fun _ => #[]); letGo old.toList.reverse; Builtin.List.listExtendWith (.ref Z) (.ref it) .none) _ _ s
  refine wpAny_bind ?_; unfold Builtin.List.listItems
  refine wpAny_bind (wpAny_seqItems hZ rfl (wpAny_pure ?_))
  show wpAny _ _ (updateSeq Z (fun _ => #[]) >>= fun _ => letGo (#[] : Array Value).toList.reverse >>= fun _ => Builtin.List.listExtendWith (.ref Z) (.ref it) .none) _ _ s
  refine wpAny_bind (wpAny_updateSeq hZ rfl ?_)
  have hZ2 := Heap.get?_update_self (Obj.mapSeq (fun _ => (#[] : Array Value))) hZ rfl
  have far : ∀ b o, b ≠ Z → s.heap.get? b = some o → (s.heap.update Z (Obj.mapSeq (fun _ => (#[] : Array Value)))).get? b = some o := fun b o hb e => (Heap.get?_update_other _ _ (Ne.symm hb)).trans e
  refine wpAny_bind (wpAny_letGo ?_)
  have hl2 : (s.heap.update Z (Obj.mapSeq (fun _ => (#[] : Array Value)))).IsList l items := by
    obtain ⟨o, e, r⟩ := hl
    exact ⟨o, far l o (Ne.symm hZl) e, r⟩
  refine ext_rev (s := { s with heap := s.heap.update Z (Obj.mapSeq (fun _ => (#[] : Array Value))) }) hh (hit.at fun o e => far it o (Ne.symm hZi) e) hl2 hne hn Z _ hZ2 hZi hZl .none fun h' tk acc c' hk hS' hacc => ?_
  exact hR h' tk acc c' (fun b o hb hb2 e => hk b o hb hb2 (far b o hb e)) hS' hacc
theorem call_list_rev {it l : Addr} {items : Array Value} {Q : Value → Shared → Prop} (hh : A.handled = none) (hit : s.heap.IsRevIter it l ((items.size : Int) - 1)) (hl : s.heap.IsList l items) (hne : l ≠ it) (hn : items.size ≤ sizeLine)
    (hQ : ∀ h' tk acc c', (∀ b o, b ≠ it → s.heap.get? b = some o → h'.get? b = some o) → h'.get? s.heap.objs.size = some { cls := .type "list", dict := none, data := .seq acc c', slots := #[] } →
      ItemsOf (fun i v => items[items.size - 1 - i]? = some v) acc items.size → Q (.ref s.heap.objs.size) { s with heap := h', toks := tk }) :
    wpAny (model prog w) A (call (.type "list") [.ref it]) Q E s := by
  refine callType_codes (Q₁ := fun obj t => obj = .ref s.heap.objs.size ∧ t = { s with heap := s.heap.push { cls := .type "list", data := .seq #[] } }) F.called_list (F.typeCall_list_1 _) F.entry_list_init
    (code_list_new _ ⟨rfl, rfl⟩) fun obj t ht => ?_
  obtain ⟨rfl, rfl⟩ := ht
  have hZ : (s.heap.push { cls := .type "list", data := .seq #[] }).get? s.heap.objs.size = some { cls := .type "list", data := .seq #[] } := Heap.get?_push_size _ rfl
  obtain ⟨oi, hoi, _⟩ := id hit
  obtain ⟨ol, hol, _⟩ := id hl
  refine ⟨⟨_, hZ, rfl⟩, F.args_list_init_2 _ _, init_rev (A := A.in1) (s := { s with heap := s.heap.push { cls := .type "list", data := .seq #[] } }) hh (hit.at fun o e => Heap.get?_push_of_some _ e) (hl.push _) hne hn _ hZ (Nat.ne_of_gt (Heap.lt_size hoi)) (Nat.ne_of_gt (Heap.lt_size hol)) fun h' tk acc c' hk hS' hacc => ?_⟩
  exact ⟨rfl, hQ h' tk acc c' (fun b o hb e => hk b o (Nat.ne_of_lt (Heap.lt_size e)) hb (Heap.get?_push_of_some _ e)) hS' hacc⟩
end
section
variable {X : Cx}
def tLstRev (K : PySem.W.Frag) (te : TE) : TE := fun σ H Q => te σ H fun v H1 => ∃ (a : Addr) (xs : List V), v = .ref a ∧ SqL K H1 a xs ∧ ∀ q, H1 q = none → Q (.ref q) (upd H1 q (.lst xs.reverse))
theorem pe_lstRev {e : Expr} {te : TE} {p p2 pos pos2 : Pos} (hc : X.calm = true) (hg : Gl X "list") (hm : X.mg "list" = none) (hg2 : Gl X "reversed") (hm2 : X.mg "reversed" = none) (he : PE X e te)
    (hs : starEach [e] X.env = (false, eval e X.env) :: starEach [] X.env)
    (hs2 : starEach [.Call (.Name "reversed" p2) [e] [] pos2] X.env = (false, eval (.Call (.Name "reversed" p2) [e] [] pos2) X.env) :: starEach [] X.env) :
    PE X (.Call (.Name "list" p) [.Call (.Name "reversed" p2) [e] [] pos2] [] pos) (tLstRev X.K te) := by
  refine ⟨fun pins s σ H Q I h => ?_⟩
  refine Call_ (ld_blt I hg hm boot_list (PyProof.Rows.callWith_type1 (args_cons (Call_ (ld_blt I hg2 hm2 PyProof.Rows.boot_reversed (PyProof.Rows.callWith_type1 (args_cons (thn (he.run pins s σ H _ I h) fun u s1 ⟨v, H1, I1, r1, q1⟩ => args_nil ?_) hs) hs rfl))) hs2) hs2 rfl))
  obtain ⟨a, xs, ev, hq, q⟩ := q1
  subst ev
  obtain rfl : u = Value.ref a := r1
  obtain ⟨its, rv, pl, hz⟩ := I1.list hq
  refine call_reversed_list pl.isList (args_nil ?_)
  have kp : ∀ b o, s1.heap.get? b = some o → (s1.heap.push (revObj a ((its.toArray.size : Int) - 1))).get? b = some o := fun b o e => Heap.get?_push_of_some _ e
  have I2 : Inv X pins σ H1 { s1 with heap := s1.heap.push (revObj a ((its.toArray.size : Int) - 1)) } := I1.kept (t' := s1.toks) kp
  obtain ⟨f0, f1, f2, f3, f4, f5⟩ := I1.fpOk (H' := H1) (b := s1.heap.objs.size) (Nat.le_refl _) (I1.hok.fresh (Nat.le_refl _))
  have il := pl.isList
  obtain ⟨ol, hol, _⟩ := id il
  have an : a ≠ s1.heap.objs.size := Nat.ne_of_lt (Heap.lt_size hol)
  have sz : its.toArray.size ≤ sizeLine := by rw [List.size_toArray, ← rv.length]; exact hz
  have iter : (s1.heap.push (revObj a ((its.toArray.size : Int) - 1))).IsRevIter s1.heap.objs.size a ((its.toArray.size : Int) - 1) := ⟨_, Heap.get?_push_size _ rfl, rfl, rfl⟩
  refine call_list_rev (s := { s1 with heap := s1.heap.push (revObj a ((its.toArray.size : Int) - 1)) }) (I1.ok.hd hc) iter (il.push _) an sz fun h' tk acc c' hk hS' hi => ?_
  have keep1 : ∀ b o, s1.heap.get? b = some o → h'.get? b = some o := fun b o e => hk b o (Nat.ne_of_lt (Heap.lt_size e)) (kp b o e)
  have zle : s1.heap.objs.size ≤ (s1.heap.push (revObj a ((its.toArray.size : Int) - 1))).objs.size := by rw [show (s1.heap.push (revObj a ((its.toArray.size : Int) - 1))).objs.size = s1.heap.objs.size + 1 from by simp [Heap.push]]; omega
  refine ⟨.ref (s1.heap.push (revObj a ((its.toArray.size : Int) - 1))).objs.size, upd H1 (s1.heap.push (revObj a ((its.toArray.size : Int) - 1))).objs.size (.lst xs.reverse), I1.laid (t' := tk) keep1 zle (show ObjOk X.prog X.w _ _ _ (.lst xs.reverse) from ⟨by rw [List.length_reverse]; exact hz, acc.toList, c', vals_rev rv hi, ?_⟩), rfl, q _ (I1.hok.fresh zle)⟩
  rw [Array.toArray_toList]; exact hS'
end
section
variable {F : Fr} {ρ : List Sl} {Γ : Ga} {a : Expr} {pos p p2 pos2 : Pos} {ma : Res D}
/-- list(reversed(x)), x a list or a cell of one's own -/
theorem ef_lstRev (hc : F.X.calm = true) (hm : F.X.mg "list" = none) (hm2 : F.X.mg "reversed" = none) (ha : Er F ρ Γ a ma) (hg : Gl F.X "list" := by rfl) (hg2 : Gl F.X "reversed" := by rfl)
    (hs : starEach [a] F.X.env = (false, eval a F.X.env) :: starEach [] F.X.env := by rfl) (hs2 : starEach [.Call (.Name "reversed" p2) [a] [] pos2] F.X.env = (false, eval (.Call (.Name "reversed" p2) [a] [] pos2) F.X.env) :: starEach [] F.X.env := by rfl) :
    EF F ρ Γ Ce.lst (.Call (.Name "list" p) [.Call (.Name "reversed" p2) [a] [] pos2] [] pos) (ma.bind D.revs) := fun S H σ Q s w =>
  We.of (pe_lstRev hc hg hm hg2 hm2 pe_We hs hs2) (ha.go s w fun d v S1 H1 u1 s1 r1 w1 => by
    unfold D.revs at w1; split at w1
    · obtain ⟨q, vs, rfl, hr, rs⟩ := srep_lst (r1 S1 H1 (Sub.refl S1) s1.hg)
      exact ⟨q, vs, rfl, .inl hr, fun z hz => w1 z S1 _ (s1.hg.no hz) u1 (s1.own hz ⟨_, rfl, reps_rev rs⟩)⟩
    · exact w1.elim)
end
end RL

/-! RL16: a call's new list taken over. -/
namespace RL
open PySem L2
theorem flat_reps {K : PySem.W.Frag} {S S' : Hp} {l : List D} {vs : List V} (h : l.all D.flat = true) (r : reps K S l vs) : reps K S' l vs := by
  induction l generalizing vs with
  | nil => unfold reps at r; subst r; exact reps_nil
  | cons d l ih =>
    unfold reps at r
    obtain ⟨v, t, rfl, q, rs⟩ := r
    rw [List.all_cons, Bool.and_eq_true] at h
    refine reps_cons ?_ (ih h.2 rs)
    rw [rep_flat h.1 q]
    cases d <;> first | rfl | (have := h.1; cases this) | (show rep K S' _ _; unfold rep; rfl)
/-- a list of flat data -/
def asFlat : D → Res (List D)
  | .lst l => if l.all D.flat = true then .ok l else .stuck
  | _ => .stuck
/-- a call whose arguments are flat: a list that it tells is new -/
def flatCall (G : List D → Res D) (ds : List D) : Res (List D) := if ds.all D.flat = true then (G ds).bind asFlat else .stuck
section
variable {F : Fr} {ρ : List Sl} {Γ : Ga} {a : Expr} {pos p : Pos} {es : List Expr} {ms : Res (List D)} {G : List D → Res D} {x : Str} {k : Nat}
theorem ef_callF (T : F.Kn x k G) (hr : Room k F.X.A) (h : Ea F ρ Γ (a :: es) ms) (hg : Gl F.X x := by rfl) (hdb : (x == ("__debug__" : Str)) = false := by decide)
    (he : starEach (a :: es) F.X.env = (false, eval a F.X.env) :: starEach es F.X.env := by rfl) (hpl : (backTo pos (starEach es F.X.env)).any (·.1) = false := by rfl) :
    EF F ρ Γ Ce.lst (.Call (.Name x p) (a :: es) [] pos) (ms.bind (flatCall G)) := fun S H σ Q s w => by
  obtain ⟨f, fd, ps, Fn, hm, hk, hb⟩ := T
  refine We.of (pe_callS (E := WE F.W) Fn hr hg hm hk hb (fun σ => passAt F.tk σ) pa_Wa hdb he hpl) (h.go s w fun ds vs S1 H1 u1 s1 r1 w1 => ?_)
  unfold flatCall at w1
  split at w1
  · rename_i hf
    have w2 := Res.wp_bind w1
    refine ⟨fun _ => none, ds, sub_emp, flat_reps hf r1, Res.wp_mono w2 (fun d z v S' H' e rv => ?_) fun c z S' H' e => ?_⟩
    · unfold asFlat at z
      split at z
      · split at z
        · rename_i l hl
          obtain ⟨q, us, rfl, hq, rs⟩ := rep_lstP rv
          have hn : H1 q = none := by
            rcases e.new q _ hq with ⟨u, hu⟩ | hn
            · cases hu
            · exact hn
          have hH : H' q = some (.lst us) := e.sub _ _ hq
          have sq : S1 q = none := s1.hg.hp.sub.none hn
          have e2 : Ext S1 H1 S1 H' := ⟨Sub.refl S1, fun a o h => e.same a o (s1.hg.hp.sub a o h), e.same, fun a o h => .inl ⟨o, h⟩⟩
          have g2 := s1.hg.ext e2
          refine z q S1 H' (s1.hg.no hn) u1 ⟨⟨g2.hp, ⟨fun b c hm => ?_, ?_⟩⟩, s1.sl⟩
          · rcases List.mem_cons.mp hm with eq | hm
            · cases eq
              exact ⟨sq, .inr (s1.hg.h0 hn), _, hH, us, rfl, flat_reps hl rs⟩
            · exact g2.ga.ce b c hm
          · rw [List.map_cons, List.nodup_cons]
            refine ⟨fun hm => ?_, s1.hg.ga.nd⟩
            obtain ⟨⟨b, c⟩, hb2, eq⟩ := List.mem_map.mp hm
            have eq : b = q := eq
            subst eq
            obtain ⟨_, _, u, h3, _⟩ := s1.hg.ga.ce b c hb2
            rw [hn] at h3; cases h3
        · exact z.elim
      · exact z.elim
    · have e2 : Ext S1 H1 S1 H' := ⟨Sub.refl S1, fun a o h => e.same a o (s1.hg.hp.sub a o h), e.same, fun a o h => .inl ⟨o, h⟩⟩
      exact z S1 H' (s1.mk' (Sub.refl S1) (s1.hg.ext e2))
  · exact w1.elim
end
end RL

/-! RL17: a class without an own __init__ is made; isinstance of an own class's instance. -/
namespace RL
open PySem PySem.Spec PySem.Calls PyProof.Rows L2
section
variable {X : Cx} {C : Addr} {x : Str} {p pos : Pos}
theorem pe_bare (mk : PySem.W.makesIn X.K C = true) (kp : PySem.W.keepIn X.K (.ref C) = true) (hi : PySem.W.findIn X.K (.ref C) "__init__" = some (some (.builtin "object.__init__"))) (hg : Gl X x) (hm : X.mg x = some (.ref C)) (hdb : (x == ("__debug__" : Str)) = false) :
    PE X (.Call (.Name x p) [] [] pos) (fun σ H Q => ∀ a dx, H a = none → H dx = none → dx ≠ a → Q (.ref a) (upd (upd H dx (.own a)) a (.ins C dx []))) := by
  refine ⟨fun pins s σ H Q I h => ?_⟩
  refine wpAny_Call_Name_kw (ld_glob I hg hm ?_ hdb)
  refine PySem.W.callWith_K0 I.kIn kp (wpAny_call ?_)
  have I2 := Inv.made (C := C) I
  have q := h (s.heap.objs.size + 1) s.heap.objs.size (I.hok.fresh (Nat.le_succ _)) (I.hok.fresh (Nat.le_refl _)) (Nat.ne_of_lt (Nat.lt_succ_self _))
  refine make_map0 I.kIn mk hi (fun self => PySem.W.Looks.of_pure (PySem.W.oi_bind self)) ?_
  have Y := PySem.W.makes_of (M := model X.prog X.w) I.kIn mk
  have g1 : ((s.heap.push PySem.W.emptyDict).push (PySem.W.instObj C s.heap.objs.size)).get? (s.heap.objs.size + 1) = some (PySem.W.instObj C s.heap.objs.size) := by
    have z := Heap.get?_push_size (s.heap.push PySem.W.emptyDict) (o := PySem.W.instObj C s.heap.objs.size) rfl
    rwa [Heap.size_push] at z
  have ty : PySem.W.Looks (model X.prog X.w) ((s.heap.push PySem.W.emptyDict).push (PySem.W.instObj C s.heap.objs.size)) (typeOf (.ref (s.heap.objs.size + 1))) (.ref C) := (PySem.W.Looks.ld g1).andThen .now
  have is : PySem.W.Looks (model X.prog X.w) ((s.heap.push PySem.W.emptyDict).push (PySem.W.instObj C s.heap.objs.size)) (isInstance (.ref (s.heap.objs.size + 1)) (.type "object")) true := ty.andThen (Y.top.keeps fun b o e => Heap.get?_push_of_some _ (Heap.get?_push_of_some _ e))
  refine codeAny_call_builtin PySem.W.oi_plain PySem.W.entry_oi (@PySem.W.check_slot (model X.prog X.w) _ _ _ "object.__init__" "object" "__init__" (.ref (s.heap.objs.size + 1)) [] [] _ PySem.W.oi_kind PySem.W.oi_split is (PySem.W.oi_args (.ref (s.heap.objs.size + 1))) ?_)
  rw [PySem.W.oi_run]
  exact wpAny_pure ⟨rfl, ⟨.ref (s.heap.objs.size + 1), _, I2, rfl, q⟩⟩
end
structure InsC (K : PySem.W.Frag) (C : Addr) : Prop where
  ha : PySem.W.findIn K (.ref C) "__class__" = some (some (.builtin "object.__class__"))
  hn : PySem.W.specialIn K (.builtin "object.__class__") "__get__" = some (some (.builtin "getset_descriptor.__get__"))
  htk : PySem.W.takesIn K (.builtin "object.__class__") = some true
  hm : PySem.W.mroIn K C (.type "object") = some true
theorem insc_ok {K : PySem.W.Frag} {x : Str} (c : (Fx.insc x).ok K = true) : InsC K (He.ga K x) := by
  obtain ⟨c1, c⟩ := He.ba c
  obtain ⟨c2, c⟩ := He.ba c
  obtain ⟨c3, c4⟩ := He.ba c
  exact ⟨of_decide_eq_true c1, of_decide_eq_true c2, of_decide_eq_true c3, of_decide_eq_true c4⟩
theorem bare_ok {K : PySem.W.Frag} {x : Str} (c : (Fx.bare x).ok K = true) : PySem.W.makesIn K (He.ga K x) = true ∧ PySem.W.keepIn K (.ref (He.ga K x)) = true ∧ PySem.W.findIn K (.ref (He.ga K x)) "__init__" = some (some (.builtin "object.__init__")) := by
  obtain ⟨c1, c⟩ := He.ba c
  obtain ⟨c2, c3⟩ := He.ba c
  exact ⟨c1, c2, of_decide_eq_true c3⟩
/-- isinstance(d, C), C an own class: asked of the classes of a table -/
def isO (tbl yes : List Str) : D → Res D
  | .obj c _ => if c ∈ tbl then .ok (.bl (decide (c ∈ yes))) else .stuck
  | _ => .stuck
section
variable {F : Fr} {ρ : List Sl} {Γ : Ga} {a : Expr} {pos p p2 : Pos} {ma : Res D} {C : Str} {tbl yes : List Str}
theorem e_bare (h : PySem.W.makesIn F.X.K (He.ga F.X.K C) = true ∧ PySem.W.keepIn F.X.K (.ref (He.ga F.X.K C)) = true ∧ PySem.W.findIn F.X.K (.ref (He.ga F.X.K C)) "__init__" = some (some (.builtin "object.__init__"))) (hC : F.X.mg C = some (.ref (He.ga F.X.K C)))
    (hg : Gl F.X C := by rfl) (hd : (C == ("__debug__" : Str)) = false := by decide) : E F ρ Γ (.Call (.Name C p) [] [] pos) (.ok (.obj C [])) := fun S H σ Q s w => by
  obtain ⟨h1, h2, h3⟩ := h
  refine We.of (pe_bare h1 h2 h3 hg hC hd) fun x dx hx hdx hne => ?_
  have g2 : Hg F.X.K F.en S (upd H dx (.own x)) Γ := s.hg.junk hdx
  have hx2 : upd H dx (.own x) x = none := by rw [upd_ne (Ne.symm hne)]; exact hx
  have sx := s.hg.hp.sub.none hx
  refine w (.ref x) _ _ (Sub.ext S sx) (s.mk' (Sub.ext S sx) (g2.share hx2)) ?_
  unfold rep
  exact ⟨x, dx, [], rfl, upd_same, by unfold repf; rfl⟩
theorem e_isO (ha : E F ρ Γ a ma) (hcls : ∀ c ∈ tbl, Cls F.X.K (He.ga F.X.K c) ∧ InsC F.X.K (He.ga F.X.K c)) (hkit : ∀ c ∈ tbl, PySem.W.kitOne F.X.K (.ref (He.ga F.X.K c)) (.ref (He.ga F.X.K C)) = some (decide (c ∈ yes))) (hC : F.X.mg C = some (.ref (He.ga F.X.K C))) (hm : F.X.mg "isinstance" = none)
    (hg : Gl F.X "isinstance" := by rfl) (hg2 : Gl F.X C := by rfl) (hd : (C == ("__debug__" : Str)) = false := by decide) (hb : bootBuiltins "isinstance" = some (.builtin "isinstance") := by decide +kernel)
    (h1 : starEach (a :: [.Name C p2]) F.X.env = (false, eval a F.X.env) :: starEach [.Name C p2] F.X.env := by rfl) (h2 : starEach (.Name C p2 :: []) F.X.env = (false, eval (.Name C p2) F.X.env) :: starEach [] F.X.env := by rfl)
    (hpl : (backTo pos (starEach [.Name C p2] F.X.env)).any (·.1) = false := by rfl) :
    E F ρ Γ (.Call (.Name "isinstance" p) [a, .Name C p2] [] pos) (ma.bind (isO tbl yes)) := fun S H σ Q s w =>
  We.of (pe_callB call_isi hg hm hb (pa_cons pe_We (pa_cons (pe_glob (v := .ref (He.ga F.X.K C)) hg2 hC rfl hd) pa_nil h2) h1) (by decide) (by decide) h1 hpl)
    (ha.go s w fun d v S1 H1 u1 s1 r1 w1 => by
      unfold isO at w1
      split at w1
      · split at w1
        · rename_i c fs hc
          obtain ⟨q, dx, vs, rfl, hp, rf⟩ := rep_obj r1
          obtain ⟨k1, k2⟩ := hcls c hc
          exact ⟨.ref q, .ref (He.ga F.X.K C), .ref (He.ga F.X.K c), .ref (He.ga F.X.K C), decide (c ∈ yes), rfl, .own _, .base (.ins (s1.hg.hp.sub _ _ hp) k1 k2.ha k2.hn k2.htk k2.hm), hkit c hc, w1 _ S1 H1 u1 s1 rep_bl⟩
        · exact w1.elim
      · exact w1.elim)
end
theorem ic_nil {K : PySem.W.Frag} : ∀ c ∈ ([] : List Str), Cls K (He.ga K c) ∧ InsC K (He.ga K c) := fun _ h => nomatch h
theorem ic_cons {K : PySem.W.Frag} {c : Str} {r : List Str} (h : Cls K (He.ga K c)) (n : InsC K (He.ga K c)) (t : ∀ c ∈ r, Cls K (He.ga K c) ∧ InsC K (He.ga K c)) : ∀ c' ∈ c :: r, Cls K (He.ga K c') ∧ InsC K (He.ga K c') := fun c' h' => by
  rcases List.mem_cons.mp h' with e | h'
  · subst e; exact ⟨h, n⟩
  · exact t c' h'
end RL

/-! RL18: defs that are handed a cell of the caller's own. -/
namespace RL
open PySem L2
def insAt {α : Type} (j : Nat) (x : α) (l : List α) : List α := l.take j ++ x :: l.drop j
theorem insAt_succ {α : Type} (j : Nat) (x a : α) (l : List α) : insAt (j + 1) x (a :: l) = a :: insAt j x l := rfl
theorem insAt_len {α : Type} (j : Nat) (x : α) (l : List α) : (insAt j x l).length = l.length + 1 := by
  unfold insAt
  rw [List.length_append, List.length_cons, List.length_take, List.length_drop]
  omega
/-- what a def promises that is handed a cell at place j -/
def spC (K : PySem.W.Frag) {γ : Type} (kk : γ → Ce) (j : Nat) (G : List D → γ → Res (D × γ)) : Sp := fun vs H Q _ => ∃ S ds us p c o, Sub S H ∧ reps K S ds us ∧ vs = insAt j (.ref p) us ∧ S p = none ∧ H p = some o ∧ ceOk K S (kk c) o ∧
  (G ds c).wp (fun r => ∀ v S' H' o', Sub S S' → Sub S' H' → (∀ a u, a ≠ p → H a = some u → H' a = some u) → (∀ a u, S' a = some u → (∃ u', S a = some u') ∨ H a = none) → H' p = some o' → ceOk K S' (kk r.2) o' → rep K S' r.1 v → Q v H') (fun _ => False)
def Kn2 (P : Program) (w : World) (K : PySem.W.Frag) (mg : Str → Option Value) (base : Heap) (x : Str) (k : Nat) {γ : Type} (kk : γ → Ce) (j : Nat) (G : List D → γ → Res (D × γ)) : Prop := ∃ f fd ps, FnOk P w K mg base (L2.CX P w) k f fd ps (spC K kk j G) ∧ mg x = some (.ref f) ∧ PySem.W.keepIn K (.ref f) = true ∧ Binds K fd ps []
abbrev Fr.Kn2 (F : Fr) (x : Str) (k : Nat) {γ : Type} (kk : γ → Ce) (j : Nat) (G : List D → γ → Res (D × γ)) := RL.Kn2 F.X.prog F.X.w F.X.K F.X.mg F.X.base x k kk j G
theorem Hg.callC {K : PySem.W.Frag} {en : En} {S H S' H' : Hp} {Γ : Ga} (g : Hg K en S H Γ) {i : Nat} {p : Addr} {c c' : Ce} {o' : HO} (h : Γ[i]? = some (p, c)) (up : Sub S S') (sub : Sub S' H') (keep : ∀ a u, a ≠ p → H a = some u → H' a = some u)
    (new : ∀ a u, S' a = some u → (∃ u', S a = some u') ∨ H a = none) (hp : H' p = some o') (ho : ceOk K S' c' o') : Hg K en S' H' (Γ.set i (p, c')) := by
  have hm := mem_at h
  obtain ⟨b1, b2, ob, b3, b4⟩ := g.ga.ce p c hm
  have em : (Γ.set i (p, c')).map (·.1) = Γ.map (·.1) := by
    rw [List.map_set]
    exact set_self (by rw [List.getElem?_map, h]; rfl)
  refine ⟨⟨sub, fun a u na e => ?_, fun a u e => ?_, g.hp.oh, g.hp.s0.trans up, fun a u e => ?_⟩, ⟨fun q cq hq => ?_, by rw [em]; exact g.ga.nd⟩⟩
  · refine keep a u (fun z => ?_) (g.hp.keep a u na e)
    subst z
    rcases b2 with z | z
    · exact na z
    · rw [z] at e; cases e
  · obtain ⟨u', h'⟩ := g.hp.there a u e
    by_cases z : a = p
    · subst z; exact ⟨o', hp⟩
    · exact ⟨u', keep a u' z h'⟩
  · rcases new a u e with ⟨u', h'⟩ | h'
    · exact g.hp.fresh a u' h'
    · exact .inr (g.h0 h')
  · have hS : ∀ q u, S q = none → H q = some u → S' q = none := fun q u e1 e2 => by
      cases z : S' q with
      | none => rfl
      | some u' =>
        rcases new q u' z with ⟨u2, h2⟩ | h2
        · rw [e1] at h2; cases h2
        · rw [e2] at h2; cases h2
    obtain ⟨n, hn, hne⟩ := List.getElem_of_mem hq
    rw [List.length_set] at hn
    rw [List.getElem_set] at hne
    by_cases z : i = n
    · rw [if_pos z] at hne
      cases hne
      exact ⟨hS p ob b1 b3, b2, o', hp, ho⟩
    · rw [if_neg z] at hne
      have hq2 : (q, cq) ∈ Γ := hne ▸ List.getElem_mem hn
      obtain ⟨h1, h2, u, h3, h4⟩ := g.ga.ce q cq hq2
      have nq : q ≠ p := fun e => by
        have i1 : i < Γ.length := by
          refine Nat.lt_of_not_le fun y => ?_
          rw [List.getElem?_eq_none y] at h; cases h
        have a1 : (Γ.map (·.1))[n]? = some q := by rw [List.getElem?_map, List.getElem?_eq_getElem hn, hne]; rfl
        have a2 : (Γ.map (·.1))[i]? = some q := by rw [List.getElem?_map, h, e]; rfl
        have := (List.getElem?_inj (by rw [List.length_map]; exact i1) g.ga.nd).mp (a2.trans a1.symm)
        exact z this
      exact ⟨hS q u h1 h3, h2, u, keep q u nq h3, h4.mono up⟩
section
variable {F : Fr} {ρ : List Sl} {Γ : Ga} {a : Expr} {pos p : Pos} {ma : Res D} {es : List Expr} {ms : Res (List D)} {γ : Type} {kk : γ → Ce} {c : γ} {G : List D → γ → Res (D × γ)} {x y : Str} {k j jj i : Nat} {q : Addr}
/-- arguments, of which the one at place j is a cell -/
def EaC (F : Fr) (ρ : List Sl) (Γ : Ga) (q : Addr) (j : Nat) (es : List Expr) (m : Res (List D)) : Prop := ∀ S H σ Q, StOk F.X.K F.en S H σ ρ Γ →
  m.wp (fun ds => ∀ us S' H', Sub S S' → StOk F.X.K F.en S' H' σ ρ Γ → reps F.X.K S' ds us → Q (insAt j (.ref q) us) H') (Xw F ρ Γ σ) → Wa F.X es σ H Q
theorem eac_here (hs : ρ[i]? = some (.at q)) (h : Ea F ρ Γ es ms) (hN : F.X.N[i]? = some y := by rfl) (hv : Vis F.X.env.scope y := by first | exact Or.inl rfl | exact Or.inr (Or.inl rfl) | exact Or.inr (Or.inr rfl))
    (h1 : (y == ("__debug__" : Str)) = false := by decide) (h2 : (y == ("__classdict__" : Str)) = false := by decide) (hst : starEach (.Name y pos :: es) F.X.env = (false, eval (.Name y pos) F.X.env) :: starEach es F.X.env := by rfl) :
    EaC F ρ Γ q 0 (.Name y pos :: es) ms := fun S H σ Q s w => by
  obtain ⟨o, e, h0⟩ := s.sl.get hs
  have h0 : o = some (.ref q) := h0
  subst h0
  refine Wa.of (pa_cons (pe_var hN hv h1 h2) pa_Wa hst) ⟨_, e, ?_⟩
  exact h S H σ _ s (Res.wp_mono w (fun ds z us S' H' u s' r => z us S' H' u s' r) fun _ z => z)
theorem eac_next (ha : E F ρ Γ a ma) (h : EaC F ρ Γ q j es ms) (hs : starEach (a :: es) F.X.env = (false, eval a F.X.env) :: starEach es F.X.env := by rfl) :
    EaC F ρ Γ q (j + 1) (a :: es) (ma.bind fun x => ms.bind fun xs => .ok (x :: xs)) := fun S H σ Q s w =>
  Wa.of (pa_cons pe_We pa_Wa hs) (ha.go s w fun d v S1 H1 u1 s1 r1 w1 => h S1 H1 σ _ s1 (Res.wp_mono (Res.wp_bind w1) (fun ds z us S2 H2 u2 s2 r2 => z (v :: us) S2 H2 (u1.trans u2) s2 (reps_cons (rep_mono u2 _ _ r1) r2)) fun _ z S' H' s' => z S' H' s'))
/-- a call that may change the cell -/
def EC (F : Fr) (ρ : List Sl) (Γ : Ga) {γ : Type} (kk : γ → Ce) (q : Addr) (jj : Nat) (e : Expr) (m : Res (D × γ)) : Prop := ∀ S H σ Q, StOk F.X.K F.en S H σ ρ Γ →
  m.wp (fun r => ∀ v S' H', Sub S S' → StOk F.X.K F.en S' H' σ ρ (Γ.set jj (q, kk r.2)) → rep F.X.K S' r.1 v → Q v H') (Xw F ρ Γ σ) → We F.X e σ H Q
/-- nothing is refused here -/
def noE {α : Type} : Res α → Res α
  | .ok a => .ok a
  | _ => .stuck
theorem noE_wp {α : Type} {m : Res α} {P R R'} (w : (noE m).wp P R) : m.wp P R' := by
  cases m with
  | ok a => exact w
  | exc k => exact False.elim w
  | stuck => exact w
theorem ec_call (T : F.Kn2 x k kk j G) (hr : Room k F.X.A) (h : EaC F ρ Γ q j (a :: es) ms) (hc : Γ[jj]? = some (q, kk c)) (hg : Gl F.X x := by rfl)
    (hdb : (x == ("__debug__" : Str)) = false := by decide) (he : starEach (a :: es) F.X.env = (false, eval a F.X.env) :: starEach es F.X.env := by rfl) (hpl : (backTo pos (starEach es F.X.env)).any (·.1) = false := by rfl) :
    EC F ρ Γ kk q jj (.Call (.Name x p) (a :: es) [] pos) (ms.bind fun ds => noE (G ds c)) := fun S H σ Q s w => by
  obtain ⟨f, fd, ps, Fn, hm, hk, hb⟩ := T
  refine We.of (pe_callS (E := WE F.W) Fn hr hg hm hk hb (fun σ => passAt F.tk σ) pa_Wa hdb he hpl) (h S H σ _ s (Res.wp_mono (Res.wp_bind w) (fun ds w1 us S1 H1 u1 s1 r1 => ?_) fun _ z => z))
  obtain ⟨b1, b2, ob, b3, b4⟩ := s1.hg.ga.ce q (kk c) (mem_at hc)
  exact ⟨S1, ds, us, q, c, ob, s1.hg.hp.sub, r1, rfl, b1, b3, b4, Res.wp_mono (noE_wp w1) (fun r z v S' H' o' up sub keep new hp ho rv => z v S' H' (u1.trans up) ⟨s1.hg.callC hc up sub keep new hp ho, s1.sl.mono up⟩ rv) fun _ z => z⟩
/-- a call that but reads the cell -/
theorem e_callR {G : List D → γ → Res D} (T : F.Kn2 x k kk j (fun ds c => (G ds c).bind fun d => .ok (d, c))) (hr : Room k F.X.A) (h : EaC F ρ Γ q j (a :: es) ms) (hc : Γ[jj]? = some (q, kk c)) (hg : Gl F.X x := by rfl)
    (hdb : (x == ("__debug__" : Str)) = false := by decide) (he : starEach (a :: es) F.X.env = (false, eval a F.X.env) :: starEach es F.X.env := by rfl) (hpl : (backTo pos (starEach es F.X.env)).any (·.1) = false := by rfl) :
    E F ρ Γ (.Call (.Name x p) (a :: es) [] pos) (ms.bind fun ds => noE (G ds c)) := fun S H σ Q s w => by
  refine ec_call T hr h hc hg hdb he hpl S H σ Q s ?_
  cases ms with
  | ok ds =>
    show (noE ((G ds c).bind fun d => .ok (d, c))).wp _ _
    have w : (noE (G ds c)).wp _ _ := w
    cases q2 : G ds c with
    | ok d =>
      rw [q2] at w
      intro v S' H' u s' r
      have e : Γ.set jj (q, kk c) = Γ := set_self hc
      rw [e] at s'
      exact w v S' H' u s' r
    | exc k => rw [q2] at w; exact w
    | stuck => rw [q2] at w; exact w
  | exc k => exact w
  | stuck => exact w
end
section
variable {τ β κ : Type} {F : FrS} {o : τ → Al → List Sl × Ga} {ob : β → Al → List Sl × Ga} {oc : κ → Al → Ga} {ρ : List Sl} {Γ : Ga} {rest : List Stmt} {ks : List (List Stmt)} {pos : Pos} {γ : Type} {kk : γ → Ce} {q : Addr} {jj i : Nat} {e : Expr} {x : Str} {me : Res (D × γ)} {mr : D → γ → Res (Fl τ β κ)}
def uc {γ α : Type} (m : D → γ → α) (r : D × γ) : α := m r.1 r.2
/-- x = f(.. cell ..) -/
theorem s_setC {pos' : Pos} (he : EC F.toFr ρ Γ kk q jj e me) (hr : ∀ d c, SJ F o ob oc rest ks (ρ.set i (.is d)) (Γ.set jj (q, kk c)) (mr d c)) (hN : F.X.N.Nodup) (hi : F.X.N[i]? = some x) (hx : Loc F.X.env.scope x) (ha : F.al ρ Γ)
    (hs : swapsWith e (some (.Name x pos')) pos.line F.X.env = pure false := by rfl) (hf : F.X.fn x = true ∨ F.X.env.scope.names.lookup x = some .local := by first | exact .inl rfl | exact .inr rfl) :
    SJ F o ob oc (.Assign [.Name x pos'] e pos :: rest) ks ρ Γ (me.bind (uc mr)) := fun S H σ D s w =>
  WSs.of (pss_cons (ps_set hN hi hx pe_We hs hf) pss_W) (he S H σ _ s (Res.wp_mono (Res.wp_bind w) (fun r w1 v S1 H1 u1 s1 rv => (hr r.1 r.2).run ⟨s1.hg, s1.sl.set i ⟨v, rfl, rv⟩⟩ u1 w1) fun _ z => xw_of ha z))
end
/-! ### such a def's body -/
def toldC {γ : Type} (m : Res (Fl γ Empty γ)) : Res (D × γ) := match m with
  | .ok (.nx t) => .ok (.non, t)
  | .ok (.rt d c) => .ok (d, c)
  | .ok (.bk e) => nomatch e
  | .ok (.ct e) => nomatch e
  | .exc k => .exc k
  | .stuck => .stuck
section
variable (P : Program) (w : World) (K : PySem.W.Frag) (mg : Str → Option Value) (base : Heap)
abbrev frC (N : List Str) (qual : Str) (scope : Scope) (f : Addr) (cdv : Value) (A : Around) (outer : List Env) (s : Shared) (H : Hp) (Er : XK) (S0 : Hp) (p : Addr) : FrS :=
  { X := cxOf (L2.CX P w) P w K mg base N qual scope f cdv A outer s H Er, W := fun cls d _ H => Er cls d H, en := ⟨H, S0, [p]⟩, tk := takes_of rfl rfl rfl rfl, al := fun _ _ => True }
end
section
variable {P : Program} {w : World} {K : PySem.W.Frag} {mg : Str → Option Value} {base : Heap} {x qual : Str} {params : Arguments} {body : List Stmt} {scope : Scope} {f : Addr} {fd : FuncData} {N ps : List Str} {k : Nat} {γ : Type} {kk : γ → Ce}
theorem slsOk_ins {S : Hp} {p : Addr} (n : Nat) : ∀ (j : Nat) {ds : List D} {us : List V}, reps K S ds us → slsOk K S (insAt j (.at p) (ds.map Sl.is) ++ List.replicate n Sl.un) ((insAt j (.ref p) us).map some ++ List.replicate n none)
  | 0, ds, us, r => ⟨_, _, rfl, rfl, slsOk_args n r⟩
  | j + 1, [], us, r => by
    unfold reps at r; subst r
    exact ⟨_, _, rfl, rfl, slsOk_un n⟩
  | j + 1, d :: ds, us, r => by
    unfold reps at r
    obtain ⟨v, t, rfl, q, rs⟩ := r
    exact ⟨some v, _, rfl, ⟨v, rfl, q⟩, slsOk_ins n j rs⟩
theorem fn_mkC (j : Nat) (Fd : FunD K x qual params body scope [] [] f fd) (Sc : FnScope N ps scope) (m : List D → γ → Res (Fl γ Empty γ)) (hl : ∀ ds c, ds.length + 1 ≠ ps.length → m ds c = .stuck)
    (hb : ∀ cdv A outer s H Er S0 p ds (c : γ), ds.length + 1 = ps.length → Room k (A.deeper (PyProof.Rows.envOfC qual scope s.heap.objs.size f cdv)) →
      SJ (τ := γ) (β := Empty) (κ := γ) (frC P w K mg base N qual scope f cdv A outer s H Er S0 p) (fun c _ => (List.replicate N.length .un, [(p, kk c)])) ob0 (fun c _ => [(p, kk c)]) body [] (insAt j (.at p) (ds.map Sl.is) ++ List.replicate (N.length - (ds.length + 1)) Sl.un) [(p, kk c)] (m ds c)) :
    FnOk P w K mg base (L2.CX P w) (k + 1) f fd ps (spC K kk j fun ds c => toldC (m ds c)) := by
  have len : ∀ vs H Q E, spC K kk j (fun ds c => toldC (m ds c)) vs H Q E → vs.length = ps.length := fun vs H Q E h => by
    obtain ⟨S, ds, us, p, c, o, u, r, rfl, _, _, _, wp⟩ := h
    rw [insAt_len, reps_len r]
    by_cases e : ds.length + 1 = ps.length
    · exact e
    · replace wp : (toldC (m ds c)).wp _ _ := wp
      rw [hl ds c e] at wp
      exact wp.elim
  refine FunD.ok Fd Sc len fun cdv A outer s H vs Q Er hr h => ?_
  obtain ⟨S, ds, us, p, c, o, u, r, ev, hp, hH, hc, wp⟩ := id h
  have e : ds.length + 1 = ps.length := by
    have := len _ _ _ _ h
    rw [ev, insAt_len, reps_len r] at this
    exact this
  subst ev
  refine ⟨_, pss_W, ?_⟩
  have st : StOk K ⟨H, S, [p]⟩ S H (L2.start N (insAt j (.ref p) us)) (insAt j (.at p) (ds.map Sl.is) ++ List.replicate (N.length - (ds.length + 1)) Sl.un) [(p, kk c)] := by
    refine ⟨⟨⟨u, fun a o _ q => q, fun a o q => ⟨o, q⟩, fun p' hm => ?_, Sub.refl S, fun a o q => .inl ⟨o, q⟩⟩, ⟨fun p' c' hm => ?_, by simp⟩⟩, ?_⟩
    · rw [List.mem_singleton.mp hm]; exact ⟨o, hH⟩
    · cases List.mem_singleton.mp hm
      exact ⟨hp, .inl (List.mem_singleton.mpr rfl), o, hH, hc⟩
    · unfold L2.start
      rw [insAt_len, reps_len r]
      exact slsOk_ins _ j r
  have fin : ∀ (d : D) (c' : γ) v S' H', Sub S S' → Hg K ⟨H, S, [p]⟩ S' H' [(p, kk c')] → rep K S' d v → (∀ v S' H' o', Sub S S' → Sub S' H' → (∀ a u, a ≠ p → H a = some u → H' a = some u) → (∀ a u, S' a = some u → (∃ u', S a = some u') ∨ H a = none) → H' p = some o' → ceOk K S' (kk c') o' → rep K S' d v → Q v H') → Q v H' := fun d c' v S' H' u' g rv z => by
    obtain ⟨_, _, o', h3, h4⟩ := g.ga.ce p (kk c') (List.mem_singleton.mpr rfl)
    exact z v S' H' o' u' g.hp.sub (fun a u na ha => g.hp.keep a u (fun y => na (List.mem_singleton.mp y)) ha) g.hp.fresh h3 h4 rv
  refine (hb cdv A outer s H Er S p ds c e hr).body (S := S) _ st (Sub.refl S) ?_
  replace wp : (toldC (m ds c)).wp _ _ := wp
  cases q : m ds c with
  | ok fl =>
    rw [q] at wp
    cases fl with
    | nx t =>
      intro α _ S' H' σ' u' s'
      exact fin .non t .non S' H' u' s'.hg rep_non wp
    | rt d c' =>
      intro α v S' H' u' g r' _
      exact fin d c' v S' H' u' g r' wp
    | bk e => exact nomatch e
    | ct e => exact nomatch e
  | exc c' => rw [q] at wp; exact wp.elim
  | stuck => rw [q] at wp; exact wp
/-- a def that but reads the cell -/
theorem fn_mkR (j : Nat) (Fd : FunD K x qual params body scope [] [] f fd) (Sc : FnScope N ps scope) (m : List D → γ → Me) (hl : ∀ ds c, ds.length + 1 ≠ ps.length → m ds c = .stuck)
    (hb : ∀ cdv A outer s H Er S0 p ds (c : γ), ds.length + 1 = ps.length → Room k (A.deeper (PyProof.Rows.envOfC qual scope s.heap.objs.size f cdv)) →
      SJ (τ := Unit) (β := Empty) (κ := Unit) (frC P w K mg base N qual scope f cdv A outer s H Er S0 p) (fun _ _ => (List.replicate N.length .un, [(p, kk c)])) ob0 (fun _ _ => [(p, kk c)]) body [] (insAt j (.at p) (ds.map Sl.is) ++ List.replicate (N.length - (ds.length + 1)) Sl.un) [(p, kk c)] (m ds c)) :
    FnOk P w K mg base (L2.CX P w) (k + 1) f fd ps (spC K kk j fun ds c => (told (m ds c)).bind fun d => .ok (d, c)) := by
  have len : ∀ vs H Q E, spC K kk j (fun ds c => (told (m ds c)).bind fun d => .ok (d, c)) vs H Q E → vs.length = ps.length := fun vs H Q E h => by
    obtain ⟨S, ds, us, p, c, o, u, r, rfl, _, _, _, wp⟩ := h
    rw [insAt_len, reps_len r]
    by_cases e : ds.length + 1 = ps.length
    · exact e
    · replace wp : ((told (m ds c)).bind fun d => .ok (d, c)).wp _ _ := wp
      rw [hl ds c e] at wp
      exact wp.elim
  refine FunD.ok Fd Sc len fun cdv A outer s H vs Q Er hr h => ?_
  obtain ⟨S, ds, us, p, c, o, u, r, ev, hp, hH, hc, wp⟩ := id h
  have e : ds.length + 1 = ps.length := by
    have := len _ _ _ _ h
    rw [ev, insAt_len, reps_len r] at this
    exact this
  subst ev
  refine ⟨_, pss_W, ?_⟩
  have st : StOk K ⟨H, S, [p]⟩ S H (L2.start N (insAt j (.ref p) us)) (insAt j (.at p) (ds.map Sl.is) ++ List.replicate (N.length - (ds.length + 1)) Sl.un) [(p, kk c)] := by
    refine ⟨⟨⟨u, fun a o _ q => q, fun a o q => ⟨o, q⟩, fun p' hm => ?_, Sub.refl S, fun a o q => .inl ⟨o, q⟩⟩, ⟨fun p' c' hm => ?_, by simp⟩⟩, ?_⟩
    · rw [List.mem_singleton.mp hm]; exact ⟨o, hH⟩
    · cases List.mem_singleton.mp hm
      exact ⟨hp, .inl (List.mem_singleton.mpr rfl), o, hH, hc⟩
    · unfold L2.start
      rw [insAt_len, reps_len r]
      exact slsOk_ins _ j r
  have fin : ∀ (d : D) v S' H', Sub S S' → Hg K ⟨H, S, [p]⟩ S' H' [(p, kk c)] → rep K S' d v → (∀ v S' H' o', Sub S S' → Sub S' H' → (∀ a u, a ≠ p → H a = some u → H' a = some u) → (∀ a u, S' a = some u → (∃ u', S a = some u') ∨ H a = none) → H' p = some o' → ceOk K S' (kk c) o' → rep K S' d v → Q v H') → Q v H' := fun d v S' H' u' g rv z => by
    obtain ⟨_, _, o', h3, h4⟩ := g.ga.ce p (kk c) (List.mem_singleton.mpr rfl)
    exact z v S' H' o' u' g.hp.sub (fun a u na ha => g.hp.keep a u (fun y => na (List.mem_singleton.mp y)) ha) g.hp.fresh h3 h4 rv
  refine (hb cdv A outer s H Er S p ds c e hr).body (S := S) _ st (Sub.refl S) ?_
  replace wp : ((told (m ds c)).bind fun d => .ok (d, c)).wp _ _ := wp
  cases q : m ds c with
  | ok fl =>
    rw [q] at wp
    cases fl with
    | nx t =>
      intro α _ S' H' σ' u' s'
      exact fin .non .non S' H' u' s'.hg rep_non wp
    | rt d c' =>
      intro α v S' H' u' g r' _
      exact fin d v S' H' u' g r' wp
    | bk e => exact nomatch e
    | ct e => exact nomatch e
  | exc c' => rw [q] at wp; exact wp.elim
  | stuck => rw [q] at wp; exact wp
end
def c1 {γ α : Type} (m : D → γ → Res α) : List D → γ → Res α
  | [a], c => m a c
  | _, _ => .stuck
def c2 {γ α : Type} (m : D → D → γ → Res α) : List D → γ → Res α
  | [a, b], c => m a b c
  | _, _ => .stuck
def c3 {γ α : Type} (m : D → D → D → γ → Res α) : List D → γ → Res α
  | [a, b, d], c => m a b d c
  | _, _ => .stuck
def c4 {γ α : Type} (m : D → D → D → D → γ → Res α) : List D → γ → Res α
  | [a, b, d, e], c => m a b d e c
  | _, _ => .stuck
theorem c1_len {γ α : Type} {m : D → γ → Res α} (ds : List D) (c : γ) (h : ds.length + 1 ≠ 2) : c1 m ds c = .stuck := by
  match ds, h with
  | [], _ => rfl
  | [a], h => exact absurd rfl h
  | _ :: _ :: _, _ => rfl
theorem c2_len {γ α : Type} {m : D → D → γ → Res α} (ds : List D) (c : γ) (h : ds.length + 1 ≠ 3) : c2 m ds c = .stuck := by
  match ds, h with
  | [], _ => rfl
  | [a], _ => rfl
  | [a, b], h => exact absurd rfl h
  | _ :: _ :: _ :: _, _ => rfl
theorem c3_len {γ α : Type} {m : D → D → D → γ → Res α} (ds : List D) (c : γ) (h : ds.length + 1 ≠ 4) : c3 m ds c = .stuck := by
  match ds, h with
  | [], _ => rfl
  | [a], _ => rfl
  | [a, b], _ => rfl
  | [a, b, d], h => exact absurd rfl h
  | _ :: _ :: _ :: _ :: _, _ => rfl
theorem c4_len {γ α : Type} {m : D → D → D → D → γ → Res α} (ds : List D) (c : γ) (h : ds.length + 1 ≠ 5) : c4 m ds c = .stuck := by
  match ds, h with
  | [], _ => rfl
  | [a], _ => rfl
  | [a, b], _ => rfl
  | [a, b, d], _ => rfl
  | [a, b, d, e], h => exact absurd rfl h
  | _ :: _ :: _ :: _ :: _ :: _, _ => rfl
end RL

/-! RL19: except (A, B). -/
namespace RL
open PySem PySem.Spec PyProof.Rows L2
theorem fly_push {bs : Heap} {ls : List Env} {ax : Addr} {Zz : Obj → Prop} {hp : Heap} (fz : HandSPX.FlyingZ bs ls ax Zz hp) (ob : Obj) : HandSPX.FlyingZ bs ls ax Zz (hp.push ob) := by
  obtain ⟨g1, g2, g3, oz, wz, Tz, oTz, tz, z1, z2, z3, z4, z5, z6, z7, z8, z9⟩ := fz
  exact ⟨fun b o e => Heap.get?_push_of_some _ (g1 b o e), g2, Heap.FunFrames.of_keeps (fun b o e _ => ⟨o, Heap.get?_push_of_some _ e, rfl⟩) g3, oz, wz, Tz, oTz, tz, Heap.get?_push_of_some _ z1, z2, z3, z4, z5, z6, Heap.get?_push_of_some _ z7, z8, z9⟩
/-- what a clause of two classes wishes -/
def wTup (K : PySem.W.Frag) (Wo : WX) (De : Ends) (u1 u2 : Value) (tz : Addr → Value → Option Addr → TS) : WX := fun cl od σz Hz => ∃ b, PySem.W.exmAny K cl [u1, u2] = some b ∧ (b = true → ∀ ax, Hz ax = none → tz ax cl od De σz Hz) ∧ (b = false → Wo cl od σz Hz)
section
variable {Xc : Cx} {bd : List Stmt} {y1 y2 : Str} {u1 u2 : Value} {su0 : Stmt} {sur : List Stmt} {q1 q2 q3 q4 q5 : Pos} {kz : Nat} {tbd : WX → TS} {tz : Addr → Value → Option Addr → TS} {Wo : WX}
theorem ps_try_tup2 (hst : Xc.stack = Xc.env :: Xc.outer) (hfe : Xc.env.frame = some Xc.env.locals) (tko : Takes Xc Wo)
    (hbd : ∀ (Wz : WX) (pz : List (Addr × Obj)) (xz : Value → Shared → Prop), Takes (Xc.tr pz xz) Wz → PassesOwn (model Xc.prog Xc.w) Xc.A Xc.env xz → PSs (Xc.tr pz xz) bd (tbd Wz))
    (m1 : Names Xc y1 u1) (m2 : Names Xc y2 u2) (hsz : ∀ (ax : Addr) (oz : Obj) (cl : Value) (od : Option Addr) (pz : List (Addr × Obj)), Zc cl od oz → (∃ ws, oz.data = .fields ws) → PSs (Xc.suite ax ((ax, oz) :: pz)) (su0 :: sur) (tz ax cl od)) :
    PS Xc (.Try bd [.ExceptHandler (some (.Tuple [.Name y1 q1, .Name y2 q2] kz q3)) none (su0 :: sur) q4] [] [] q5) (fun De σz Hz => tbd (wTup Xc.K Wo De u1 u2 tz) De σz Hz) := by
  refine ⟨fun pinz sz σz Hz De Iz hz => ?_⟩
  have okz := Iz.ok
  have frz : Xc.A.frames = some (Xc.env :: Xc.outer) := by rw [okz.frames, hst]
  refine wpAny_Try_except ?_
  refine wpAny_mono ((hbd (wTup Xc.K Wo De u1 u2 tz) (Xc.pn ++ pinz) (fun ez s₁ => wpAny (model Xc.prog Xc.w) Xc.A (noteFrame ez Xc.env) (fun _ s₂ => wpAny (model Xc.prog Xc.w) Xc.A (setFlight ez none) (fun _ s₃ =>
    wpAny (model Xc.prog Xc.w) Xc.A (handleBy ez Xc.env [.ExceptHandler (some (.Tuple [.Name y1 q1, .Name y2 q2] kz q3)) none (su0 :: sur) q4]) (SP Xc pinz De) Xc.xe s₃) Xc.xe s₂) Xc.xe s₁) (fun uz sE xz => ?_) PassesOwn.looking).run [] sz σz Hz De (Iz.toTry _) hz) (fun fz s1 hsp => ?_) (fun ez s1 he => he)
  · obtain ⟨ax, Bz, sJ, pinz', σ2, H2, cl, od, rfl, Jz, nbz, upz, skz, naz, osz, agz, wz⟩ := xz
    have J0 : Inv Xc pinz σ2 H2 sJ := Jz.ofTry okz
    have skz' : Sky Bz (Xc.env :: Xc.outer) ax (Zc cl od) Xc.env.locals sE.heap := by rw [← hst]; exact skz
    show wpAny (model Xc.prog Xc.w) Xc.A (noteFrame (.ref ax) Xc.env) _ _ _
    refine Sky.land Zc.steady frz hfe skz' fun hL flz upL => ?_
    have JL : Inv Xc pinz σ2 H2 { sE with heap := hL } := J0.landed nbz flz.1 (upz.trans upL) osz agz
    obtain ⟨oz, wsz, hoz, hzz, hdz⟩ := flz.there
    have notF : ∀ {hh : Heap} {ob : Obj} {ws : Array Value}, hh.FunFrames Bz (Xc.env :: Xc.outer) → hh.get? ax = some ob → ob.data = .fields ws → ax ∉ frs (Xc.env :: Xc.outer) := fun {hh ob ws} ff ee dd hm => by
      obtain ⟨_, ob', ee', hnf⟩ := ff.mem hm
      rw [ee] at ee'; cases ee'
      exact hnf _ dd
    have nfz := notF flz.2.2.1 hoz hdz
    have nLz : ax ≠ Xc.env.locals := fun z => nfz (List.mem_filterMap.mpr ⟨Xc.env, List.mem_cons_self, by rw [hfe, z]⟩)
    have nFz : ax ∉ Xc.fs := fun hm => by
      obtain ⟨ee, hee, qq⟩ := List.mem_filterMap.mp hm
      exact nfz (List.mem_filterMap.mpr ⟨ee, List.mem_cons_of_mem _ hee, qq⟩)
    have SL := JL.suite hoz hdz naz nLz nFz
    obtain ⟨bz, hb1, hyes, hno⟩ := wz
    refine wpAny_handleBy_cons (codeAny_handlers_test ?_) (by intro qz; cases qz)
    have test : ∀ {x : Str} {cz : Value} {pz : Pos} {Qz : Value → Shared → Prop} {Ez : Value → Shared → Prop}, Names Xc x cz → Qz cz { sE with heap := hL } → wpAny (model Xc.prog Xc.w) (Xc.A.mark (some (.ref ax))) (eval (.Name x pz) Xc.env) Qz Ez { sE with heap := hL } := fun {x cz pz Qz Ez} nz qz => by
      obtain ⟨hgz, hdbz, hmz | ⟨hmz, hvz, hnz⟩⟩ := nz
      · exact ld_glob (X := Xc.suite ax ((ax, oz) :: (Xc.pn ++ pinz))) SL hgz hmz qz hdbz
      · exact ld_blt (X := Xc.suite ax ((ax, oz) :: (Xc.pn ++ pinz))) SL hgz hmz hvz qz hnz hdbz
    refine Tuple_ (spliced_more (test m1 (spliced_more (test m2 (spliced_none ?_)))))
    refine wpAny_newObj_type ?_
    have kz : ∀ b o, hL.get? b = some o → (hL.push ({ cls := .type "tuple", dict := none, data := .seq [u1, u2].toArray } : Obj)).get? b = some o := fun b o ee => Heap.get?_push_of_some _ ee
    have flp := fly_push flz ({ cls := .type "tuple", dict := none, data := .seq [u1, u2].toArray } : Obj)
    have upP : hL.UpToSlots (hL.push ({ cls := .type "tuple", dict := none, data := .seq [u1, u2].toArray } : Obj)) := Heap.UpToSlots.of_keeps kz
    have JP : Inv Xc pinz σ2 H2 { sE with heap := hL.push ({ cls := .type "tuple", dict := none, data := .seq [u1, u2].toArray } : Obj) } := J0.landed nbz flp.1 ((upz.trans upL).trans upP) osz agz
    have LTz : PySem.W.Looks (model Xc.prog Xc.w) (hL.push ({ cls := .type "tuple", dict := none, data := .seq [u1, u2].toArray } : Obj)) (typeOf (.ref ax)) cl := fun A Q E s k q => wpAny_typeOf_ref (k _ _ (kz _ _ hoz)) (by rw [hzz.1]; exact q)
    have LMz := PySem.W.exm_tup2 (M := model Xc.prog Xc.w) (tp := hL.objs.size) (JP.kIn) LTz (Heap.get?_push_size _ rfl) hb1
    refine LMz.here ?_
    cases bz with
    | true =>
      refine codeAny_handlers_suite ?_
      refine HandSPX.lands_againZ flp fun h4 fl4 up4 => ?_
      have J4 : Inv Xc pinz σ2 H2 { sE with heap := h4 } := J0.landed nbz fl4.1 (((upz.trans upL).trans upP).trans up4) osz agz
      obtain ⟨o4, ws4, hz4, zz4, dz4⟩ := fl4.there
      have S4 := J4.suite hz4 dz4 naz nLz nFz
      refine wpAny_mono ((hsz ax o4 cl od (Xc.pn ++ pinz) zz4 ⟨_, dz4⟩).run [] _ _ H2 _ S4 (hyes rfl ax naz)) (fun fz s6 hsp => ?_) (fun _ _ z => False.elim z)
      cases fz with
      | next =>
        obtain ⟨σ6, H6, S6, q6⟩ := hsp
        exact ⟨_, _, S6.unsuite okz, q6⟩
      | brk =>
        obtain ⟨σ6, H6, S6, q6⟩ := hsp
        exact ⟨_, _, S6.unsuite okz, q6⟩
      | cont =>
        obtain ⟨σ6, H6, S6, q6⟩ := hsp
        exact ⟨_, _, S6.unsuite okz, q6⟩
      | ret u =>
        obtain ⟨v6, σ6, H6, S6, r6, q6⟩ := hsp
        exact ⟨_, _, _, S6.unsuite okz, r6, q6⟩
    | false =>
      refine wpAny_handleBy_nil ?_
      obtain ⟨k1, k2, k3, oe, vs, T, oT, ts', he, hz, hd, h1, hr⟩ := id flp
      unfold PySem.passOn
      refine wpAny_bind (wpAny_field he hd h1 ?_)
      rw [if_neg (show ¬ ((Value.ref T == Value.none) = true) from by simp)]
      have fin : wpAny (model Xc.prog Xc.w) Xc.A (setFlight (.ref ax) Xc.env.frame) (fun _ s4 => wpAny (model Xc.prog Xc.w) Xc.A (throw (.ref ax) : Sem Flow) (SP Xc pinz De) Xc.xe s4) Xc.xe { sE with heap := hL.push ({ cls := .type "tuple", dict := none, data := .seq [u1, u2].toArray } : Obj) } := by
        rw [hfe]
        refine HandSPX.setFlight_upZ flp fun h4 hh4 up4 => wpAny_throw (tko _ _ ?_)
        exact ⟨ax, Bz, sJ, pinz, σ2, H2, cl, od, rfl, J0, nbz, ((upz.trans upL).trans upP).trans up4, .inr (.inr (by rw [hst]; exact hh4)), naz, osz, agz, hno rfl⟩
      first
        | exact wpAny_bind (wpAny_pure (wpAny_bind fin))
        | exact wpAny_bind fin
  · cases fz with
    | next =>
      obtain ⟨σ2, H2, J2, q⟩ := hsp
      exact wpAny_execs_nil ⟨σ2, H2, J2.ofTry okz, q⟩
    | brk =>
      obtain ⟨σ2, H2, J2, q⟩ := hsp
      exact ⟨σ2, H2, J2.ofTry okz, q⟩
    | cont =>
      obtain ⟨σ2, H2, J2, q⟩ := hsp
      exact ⟨σ2, H2, J2.ofTry okz, q⟩
    | ret u =>
      obtain ⟨v2, σ2, H2, J2, r2, q⟩ := hsp
      exact ⟨v2, σ2, H2, J2.ofTry okz, r2, q⟩
end
section
variable {τ τ' β κ : Type} {F : FrS} {o : τ → Al → List Sl × Ga} {o' : τ' → Al → List Sl × Ga} {ob : β → Al → List Sl × Ga} {oc : κ → Al → Ga} {ρ : List Sl} {Γ : Ga} {rest : List Stmt} {ks : List (List Stmt)} {pos : Pos}
theorem s_tryTup {c1 c2 : Str} {body suite : List Stmt} {b₀ : Stmt} {p1 p2 p3 pos' : Pos} {kk : Nat} {all y1 y2 : List Str} {mb : Res (Fl τ' Empty κ)} {mh : Str → Res (Fl τ' Empty κ)} {mr : τ' → Res (Fl τ β κ)}
    (hb : ∀ en pn xe W tk, SJ (F.tr ρ Γ en pn xe W tk) o' ob0 oc body [] ρ Γ mb) (ex1 : ∀ k ∈ all, PySem.W.exmOne F.X.K (.ref (He.ga F.X.K k)) (.ref (He.ga F.X.K c1)) = some (decide (k ∈ y1))) (ex2 : ∀ k ∈ all, PySem.W.exmOne F.X.K (.ref (He.ga F.X.K k)) (.ref (He.ga F.X.K c2)) = some (decide (k ∈ y2)))
    (su : ∀ k a oe pn, Zc (.ref (He.ga F.X.K k)) none oe → (∃ vs, oe.data = .fields vs) → SJ (F.su a oe pn) o' ob0 oc (b₀ :: suite) [] ρ Γ (mh k)) (hr : ∀ t α, AOk F.en.O α → SJ F o ob oc rest ks (o' t α).1 (o' t α).2 (mr t)) (ha : F.al ρ Γ)
    (hc1 : F.X.mg c1 = some (.ref (He.ga F.X.K c1))) (hc2 : F.X.mg c2 = some (.ref (He.ga F.X.K c2))) (hs : F.X.stack = F.X.env :: F.X.outer := by rfl) (hf : F.X.env.frame = some F.X.env.locals := by rfl) (hg1 : Gl F.X c1 := by rfl) (hd1 : (c1 == ("__debug__" : Str)) = false := by decide) (hg2 : Gl F.X c2 := by rfl) (hd2 : (c2 == ("__debug__" : Str)) = false := by decide) :
    SJ F o ob oc (.Try body [.ExceptHandler (some (.Tuple [.Name c1 p1, .Name c2 p2] kk p3)) none (b₀ :: suite) pos'] [] [] pos :: rest) ks ρ Γ (andThen (noB (tryM mb (hM all (y1 ++ y2) (fun k => noX (mh k)) Res.exc))) mr) := fun S H σ D s w => by
  refine WSs.of (pss_cons (ps_try_tup2 (tbd := fun W D σ H => ∀ pn xe (tk : Takes (F.X.tr pn xe) W), WSs (F.X.tr pn xe) body D σ H) (tz := fun a cls d D σ H => ∀ oe pn, Zc cls d oe → (∃ vs, oe.data = .fields vs) → WSs (F.X.suite a ((a, oe) :: pn)) (b₀ :: suite) D σ H)
    hs hf F.tk (fun W pn xe tk _ => ⟨fun pins s σ H D I q => (q pn xe tk).run pins s I⟩) ⟨hg1, hd1, .inl hc1⟩ ⟨hg2, hd2, .inl hc2⟩ (fun a oe cls d pn hz hd => ⟨fun pins s σ H D I q => (q oe pn hz hd).run pins s I⟩)) pss_W) fun pn xe tk => ?_
  have s1 : StOk F.X.K (enT F.en S H Γ) S H σ ρ Γ := ⟨s.hg.into, s.sl⟩
  refine (hb (enT F.en S H Γ) pn xe _ tk).body (S := S) _ s1 (Sub.refl S) ?_
  cases q : mb with
  | stuck => rw [q] at w; exact w
  | ok fl =>
    rw [q] at w
    cases fl with
    | nx t => exact fun α hα S' H' σ' u' s' => (hr t α (aok_back hα)).run ⟨s.hg.back s'.hg, s'.sl⟩ u' w
    | rt d c => exact fun α v S' H' u' g' r' => w α v S' H' u' (s.hg.back g') r'
    | bk e => exact nomatch e
    | ct e => exact nomatch e
  | exc k =>
    rw [q] at w
    rintro ρ' Γ' S' H' σ' ⟨rfl, rfl⟩ s'
    have u' : Sub S S' := s'.hg.hp.s0
    have sb : StOk F.X.K F.en S' H' σ' ρ' Γ' := ⟨s.hg.back s'.hg, s'.sl⟩
    replace w : (andThen (noB (hM all (y1 ++ y2) (fun k => noX (mh k)) Res.exc k)) mr).wp (FlW F o ob oc S D) (Xs F) := w
    unfold hM at w
    split at w
    · rename_i hk
      have hany : PySem.W.exmAny F.X.K (.ref (He.ga F.X.K k)) [.ref (He.ga F.X.K c1), .ref (He.ga F.X.K c2)] = some (decide (k ∈ y1 ++ y2)) := by
        have e0 : PySem.W.exmAny F.X.K (.ref (He.ga F.X.K k)) [] = some false := rfl
        have e1 : PySem.W.exmAny F.X.K (.ref (He.ga F.X.K k)) [.ref (He.ga F.X.K c2)] = some (decide (k ∈ y2) || false) := by
          show (match PySem.W.exmOne F.X.K (.ref (He.ga F.X.K k)) (.ref (He.ga F.X.K c2)), PySem.W.exmAny F.X.K (.ref (He.ga F.X.K k)) [] with
            | some b, some d => some (b || d)
            | _, _ => none) = _
          rw [ex2 k hk, e0]
        show (match PySem.W.exmOne F.X.K (.ref (He.ga F.X.K k)) (.ref (He.ga F.X.K c1)), PySem.W.exmAny F.X.K (.ref (He.ga F.X.K k)) [.ref (He.ga F.X.K c2)] with
          | some b, some d => some (b || d)
          | _, _ => none) = _
        rw [ex1 k hk, e1]
        show some _ = some _
        congr 1
        rw [Bool.or_false]
        by_cases z1 : k ∈ y1 <;> by_cases z2 : k ∈ y2 <;> simp [z1, z2]
      refine ⟨_, hany, fun hy a na oe pn2 hz hd2 => ?_, fun hy => ?_⟩
      · have hy := of_decide_eq_true hy
        rw [if_pos hy] at w
        refine (su k a oe pn2 hz hd2).body (S := S) _ sb u' ?_
        replace w : (andThen (noB (noX (mh k))) mr).wp (FlW F o ob oc S D) (Xs F) := w
        cases q2 : mh k with
        | stuck => rw [q2] at w; exact w
        | exc k2 => rw [q2] at w; exact w.elim
        | ok fl =>
          rw [q2] at w
          cases fl with
          | nx t => exact fun α hα S2 H2 σ2 u2 s3 => (hr t α hα).run s3 u2 w
          | rt d c => exact fun α v S2 H2 u2 g2 r2 => w α v S2 H2 u2 g2 r2
          | bk e => exact nomatch e
          | ct e => exact nomatch e
      · have hy := of_decide_eq_false hy
        rw [if_neg hy] at w
        exact w ρ' Γ' S' H' σ' ha sb
    · exact w.elim
end
end RL

/-! RL20: sorted(list of ints), sorted(dict). -/
namespace RL
open PySem PySem.Spec PyProof.Rows L2
section
variable {pg : Program} {wd : World} {Ar : Around} {Ez : Value → Shared → Prop} {sz : Shared} {Tz : String} {rz dz : Addr} {nz : Nat} {Pz : Nat → Value → Prop} {Kz : Heap → Prop}
theorem dk_collect {Rz : List Value → Shared → Prop} (Sz : PySem.W.KdlSrc pg wd Tz rz dz nz Pz Kz) (nh : Ar.handled = none) (kz : Kz sz.heap) (ln : nz ≤ sizeLine)
    (fz : ∀ (hN : Heap) (tN : Nat) (cN : Array Value), (∀ b o, sz.heap.get? b = some o → hN.get? b = some o) → sz.heap.objs.size < hN.objs.size → PySem.ItemsOf Pz cN nz → Rz cN.toList { sz with heap := hN, toks := tN }) :
    wpAny (model pg wd) Ar (collect (.ref rz)) Rz Ez sz := by
  have lz := Sz.there _ kz
  unfold collect
  refine wpAny_bind (wpAny_runValue (codeAny_builtin PyProof.Rows.entry_proto_collect' ?_))
  rw [Around.under_plainId PySem.F.plain_proto_collect _]
  show wpAny _ Ar.in1 (newList [] >>= fun l => again (.builtin "list.__iadd__" ⟨[l, .ref rz], []⟩)) _ _ sz
  refine wpAny_bind (wpAny_newObj_type ?_)
  refine wpAny_pure ⟨plainId_quiet PySem.F.plain_list_iadd _, codeAny_builtin PyProof.Rows.entry_list_iadd' ?_⟩
  rw [Around.under_plainId PySem.F.plain_list_iadd _]
  have at1 : (sz.heap.push { cls := .type "list", data := .seq ([] : List Value).toArray }).get? sz.heap.objs.size = some { cls := .type "list", data := .seq #[] } := Heap.get?_push_size _ rfl
  show wpAny _ Ar.in1 (Builtin.List.listExtendWith (.ref sz.heap.objs.size) (.ref rz) (.ref sz.heap.objs.size)) _ _ _
  have main := PySem.W.kdl_extend (A := Ar) (s := { sz with heap := sz.heap.push { cls := .type "list", data := .seq ([] : List Value).toArray } })
    (R := fun (q : Result) (sx : Shared) => ∃ (hN : Heap) (tN : Nat) (cN : Array Value) (eN : Nat), q = .ok (.ret (.ref sz.heap.objs.size)) ∧ sx = { sz with heap := hN, toks := tN } ∧
      (∀ b o, sz.heap.get? b = some o → hN.get? b = some o) ∧ hN.get? sz.heap.objs.size = some { cls := .type "list", dict := none, data := .seq cN eN, slots := #[] } ∧ PySem.ItemsOf Pz cN nz)
    Sz nh (Sz.keep _ _ kz fun b _ o e => Heap.get?_push_of_some _ e) sz.heap.objs.size (Nat.ne_of_gt lz.1) (Nat.ne_of_gt lz.2) (.ref sz.heap.objs.size) 0 at1
    (fun hN tN cN eN keepN atN items => ⟨hN, tN, cN, eN, rfl, rfl, fun b o e => keepN b o (Nat.ne_of_lt (Heap.lt_size e)) (Heap.get?_push_of_some _ e), atN, items⟩) ln
  refine wpAny_mono main (fun fn sx xx => ?_) fun ex sx xx => ?_
  · cases fn with
    | done f =>
      obtain ⟨hN, tN, cN, eN, ee, rfl, keepN, atN, items⟩ := xx
      cases ee
      show wpAny _ Ar (load sz.heap.objs.size >>= _) _ _ _
      refine wpAny_bind (wpAny_load atN ?_)
      exact wpAny_pure (fz hN tN cN keepN (Heap.lt_size atN) items)
    | again c₁ =>
      refine ⟨xx.1, codeAny_mono xx.2 fun q s₂ yy => ?_⟩
      obtain ⟨hN, tN, cN, eN, rfl, rfl, keepN, atN, items⟩ := yy
      show wpAny _ Ar (load sz.heap.objs.size >>= _) _ _ _
      refine wpAny_bind (wpAny_load atN ?_)
      exact wpAny_pure (fz hN tN cN keepN (Heap.lt_size atN) items)
  · obtain ⟨_, _, _, _, ee, _⟩ := xx
    cases ee
end
section
variable {X : Cx}
theorem cr_sortedDk (hcalm : X.calm = true) : CallR X (.builtin "sorted") (fun xs H Q => ∃ (a : Addr) (kvs : List (Key × V)) (ns : List Int), xs = [.ref a] ∧ Rd H a (.dK kvs) ∧ (kvs.map fun kv => kV kv.1) = ns.map V.int ∧
    ∀ (ns' : List Int) (p : Addr), ns'.Perm ns → ns'.Pairwise (· ≤ ·) → H p = none → Q (.ref p) (upd H p (.lst (ns'.map V.int)))) := by
  intro pins s σ H xs us Q I r q
  obtain ⟨a, kvs, ns, ex, hd, hns, q⟩ := q
  subst ex
  obtain ⟨u, eu, rx⟩ := vals1 r
  subst eu
  cases rx
  obtain ⟨z, lo, vs, rel, dd⟩ := dk_rd I.hok hd
  obtain ⟨ep, hat⟩ := dd.dictAt
  have ek : (kvs.map fun kv => kV kv.1) = vs.map fun p => kV p.1 := by
    have e := congrArg (List.map kV) rel.keys
    rw [List.map_map, List.map_map] at e
    exact e
  refine Calls.call_function_entry PyProof.Rows.kind_sorted PyProof.Rows.plain_sorted PyProof.Rows.entry_sorted (PyProof.Rows.args_sorted1 _) ?_
  unfold Builtin.«sorted»
  refine wpAny_bind (m := checkCount "sorted" 1 1 _) (wpAny_pure ?_)
  refine wpAny_bind (dk_collect (PySem.W.kdl_dict (knd := mixKind X.prog X.w) (kvs := vs) (ep := ep) lo) (I.ok.hd hcalm) hat (by rw [← rel.length]; exact z) fun hN tN cN keepN lN items => ?_)
  have hv : Vals (ns.map V.int) cN.toList := by
    rw [← hns, ek]
    exact keys_at (by rw [Array.length_toList]; exact items.1) fun j v e => items.2 j v (by rw [← Array.getElem?_toList]; exact e)
  have hlen : cN.toList.length ≤ sizeLine := by
    have := hv.length
    rw [← this, ← hns, List.length_map]; exact z
  refine wpAny_bind (wpAny_newList ?_ hlen)
  have hob : (hN.push (seqObj "list" cN.toList.toArray 0)).get? hN.objs.size = some (seqObj "list" cN.toList.toArray 0) := Heap.get?_push_size _ rfl
  refine wpAny_bind (wpAny_holding (wpAny_call_entry PyProof.Rows.slot_list_sort ⟨_, hob, rfl⟩ PyProof.Rows.entry_list_sort
    (SrtO.list_sort_ord (s := { s with heap := hN.push (seqObj "list" cN.toList.toArray 0), toks := tN }) SrtO.swo_int hob hlen (fun h2 => SrtO.ints_sortable hv.ints h2) fun out h1 h2 => ⟨.none, rfl, ?_⟩) (PyProof.Rows.args_list_sort _)))
  obtain ⟨k1, k2, k3⟩ := SrtO.ints_out hv.ints h1 h2
  obtain ⟨ep', he'⟩ := PyProof.Rows.sortedHeap_at (vs := cN.toList) (out := out.toArray) hob
  have hl2 : ((out.map SrtO.iv).map V.int).length ≤ sizeLine := by
    rw [List.length_map, k2.length_eq]
    have := hv.length
    rw [List.length_map] at this
    rw [this]; exact hlen
  refine wpAny_pure ⟨.ref hN.objs.size, rfl, ?_⟩
  refine ⟨.ref hN.objs.size, upd H hN.objs.size (.lst ((out.map SrtO.iv).map V.int)), I.laid (t' := tN) (fun b o e => ?_) (Nat.le_of_lt lN) ⟨hl2, out, ep', vals_of_ints k1, he'⟩, rfl, q _ _ k2 k3 (I.hok.fresh (Nat.le_of_lt lN))⟩
  have e1 := keepN b o e
  have hlt : b < hN.objs.size := Heap.lt_size e1
  rw [PyProof.Rows.sortedHeap_old (Nat.ne_of_lt hlt) (by rw [Heap.size_push]; exact Nat.lt_succ_of_lt hlt)]
  exact Heap.get?_push_of_some _ e1
end
theorem sorted_uniq {l m : List Int} (h : l.Perm m) (h1 : l.Pairwise (· ≤ ·)) (h2 : m.Pairwise (· ≤ ·)) : l = m := by
  induction l generalizing m with
  | nil => exact (List.nil_perm.mp h).symm
  | cons a l ih =>
    cases m with
    | nil => exact absurd h.length_eq (by simp)
    | cons b m =>
      rw [List.pairwise_cons] at h1 h2
      have e : a = b := by
        have ha : a ∈ b :: m := h.mem_iff.mp List.mem_cons_self
        have hb : b ∈ a :: l := h.mem_iff.mpr List.mem_cons_self
        rcases List.mem_cons.mp ha with e | ha
        · exact e
        · rcases List.mem_cons.mp hb with e | hb
          · exact e.symm
          · have := h1.1 b hb
            have := h2.1 a ha
            omega
      subst e
      rw [ih (List.Perm.cons_inv h) h1.2 h2.2]
namespace D
/-- the ints in order -/
def srt (ns : List Int) : List Int := ns.mergeSort (fun a b => decide (a ≤ b))
def keyInt : List (Key × D) → Option (List Int)
  | [] => some []
  | (.inl i, _) :: r => (keyInt r).map (i :: ·)
  | (.inr _, _) :: _ => none
def sortedD : D → Res D
  | .lst l => match allInt l with
    | some ns => .ok (.lst ((srt ns).map D.int))
    | none => .stuck
  | .dic l => match keyInt l with
    | some ns => .ok (.lst ((srt ns).map D.int))
    | none => .stuck
  | _ => .stuck
end D
theorem srt_perm (ns : List Int) : (D.srt ns).Perm ns := List.mergeSort_perm ns _
theorem srt_pw (ns : List Int) : (D.srt ns).Pairwise (· ≤ ·) := by
  have h := List.pairwise_mergeSort (le := fun a b : Int => decide (a ≤ b)) (fun a b c h1 h2 => by
    have h1 := of_decide_eq_true h1
    have h2 := of_decide_eq_true h2
    exact decide_eq_true (by omega)) (fun a b => by
    by_cases z : a ≤ b
    · simp [z]
    · have : b ≤ a := by omega
      simp [this]) ns
  exact h.imp fun h => of_decide_eq_true h
theorem srt_eq {l ns : List Int} (h : l.Perm ns) (h1 : l.Pairwise (· ≤ ·)) : l = D.srt ns := sorted_uniq (h.trans (srt_perm ns).symm) h1 (srt_pw ns)
theorem keyInt_reps {K : PySem.W.Frag} {S : Hp} : ∀ {l : List (Key × D)} {ns : List Int} {vs : List (Key × V)}, D.keyInt l = some ns → repk K S l vs → (vs.map fun kv => kV kv.1) = ns.map V.int
  | [], ns, vs, h, r => by
    cases h
    unfold repk at r; subst r; rfl
  | (.inl i, d) :: l, ns, vs, h, r => by
    unfold repk at r
    obtain ⟨v, t, rfl, _, rs⟩ := r
    unfold D.keyInt at h
    cases q : D.keyInt l with
    | none => rw [q] at h; cases h
    | some ms =>
      rw [q] at h
      cases h
      rw [List.map_cons, keyInt_reps q rs]; rfl
  | (.inr i, d) :: l, ns, vs, h, r => by cases h
section
variable {X : Cx}
theorem callD_sortedD (hcalm : X.calm = true) : CallR X (.builtin "sorted") (rC X.K (ap1 D.sortedD)) :=
  callD1 (cr_sortedI.or (cr_sortedDk hcalm)) fun en S H Γ R d v Q hg rd w => by
    unfold D.sortedD at w
    split at w
    · split at w
      · rename_i l ns hns
        obtain ⟨p, vs, rfl, hr, rs⟩ := srep_lst rd
        have e := ints_all rs hns
        subst e
        refine .inl ⟨p, ns, rfl, .inl hr, fun ns' q hp hs hq => ?_⟩
        have sp := hg.hp.sub.none hq
        rw [srt_eq hp hs]
        exact w _ _ _ (Sub.ext S sp) (hg.share hq) (rep_lst_new sp reps_ints)
      · exact w.elim
    · split at w
      · rename_i l ns hns
        obtain ⟨p, vs, rfl, hr, rs⟩ := srep_dic rd
        refine .inr ⟨p, vs, ns, rfl, hr, keyInt_reps hns rs, fun ns' q hp hs hq => ?_⟩
        have sp := hg.hp.sub.none hq
        rw [srt_eq hp hs]
        exact w _ _ _ (Sub.ext S sp) (hg.share hq) (rep_lst_new sp reps_ints)
      · exact w.elim
    · exact w.elim
end
end RL

/-! RL21: d.get(k). -/
namespace RL
open PySem L2
def asDic : D → Res (List (Key × D))
  | .dic l => .ok l
  | _ => .stuck
def getK (l : List (Key × D)) : D → Res D
  | .int i => .ok ((D.look l (.inl i)).getD .non)
  | .str i => .ok ((D.look l (.inr i)).getD .non)
  | _ => .stuck
section
variable {F : Fr} {ρ : List Sl} {Γ : Ga} {a b : Expr} {apos cpos : Pos} {ma mb : Res D}
theorem e_dget (hu : F.X.A.units + 1 < cLine) (ha : Er F ρ Γ a ma) (hb : E F ρ Γ b mb) (m1 : attributeBase a "get" F.X.env (eval a F.X.env) = eval a F.X.env := by rfl)
    (m2 : ((backTo cpos (starEach [b] F.X.env)).all (fun x => !x.1) && (backToKw cpos (keywordEach [] F.X.env)).all (fun x => x.1.isSome) && decide (([b] : List Expr).length + ([] : List Keyword).length + (if ([] : List Keyword).isEmpty then 0 else 1) < 30)) = true := by rfl)
    (m3 : (apos.endLine == cpos.line) = true := by rfl) (m4 : backTo cpos (starEach [b] F.X.env) = [(false, eval b F.X.env)] := by rfl) :
    E F ρ Γ (.Call (.Attribute a "get" apos) [b] [] cpos) (ma.bind fun x => (asDic x).bind fun l => mb.bind fun y => getK l y) := fun S H σ Q s w =>
  We.of (pe_dget1 hu pe_We pe_We ⟨m1, m2, m3, m4⟩) (ha.go s w fun d x S1 H1 u1 s1 r1 w1 => by
    unfold asDic at w1
    split at w1
    · obtain ⟨p, vs, rfl, hr, rs⟩ := srep_dic (r1 S1 H1 (Sub.refl S1) s1.hg)
      refine ⟨p, rfl, .inl ⟨vs, hr⟩, hb.go s1 w1 fun d2 y S2 H2 u2 s2 r2 w2 => ?_⟩
      obtain ⟨p', vs', e', hr', rs'⟩ := srep_dic (r1 S2 H2 u2 s2.hg)
      cases e'
      unfold getK at w2
      split at w2
      · rename_i i
        rw [rep_int_eq r2]
        refine ⟨_, .inl ⟨vs', .inl i, hr', rfl, rfl⟩, ?_⟩
        have lk := repk_look (k := .inl i) rs'
        cases q : D.look _ (Sum.inl i : Key) with
        | none =>
          rw [q] at lk w2
          rw [lk]
          exact w2 _ S2 H2 (u1.trans u2) s2 rep_non
        | some d3 =>
          rw [q] at lk w2
          obtain ⟨v, e1, e2⟩ := lk
          rw [e1]
          exact w2 _ S2 H2 (u1.trans u2) s2 e2
      · rename_i i
        rw [rep_str_eq r2]
        refine ⟨_, .inl ⟨vs', .inr i, hr', rfl, rfl⟩, ?_⟩
        have lk := repk_look (k := .inr i) rs'
        cases q : D.look _ (Sum.inr i : Key) with
        | none =>
          rw [q] at lk w2
          rw [lk]
          exact w2 _ S2 H2 (u1.trans u2) s2 rep_non
        | some d3 =>
          rw [q] at lk w2
          obtain ⟨v, e1, e2⟩ := lk
          rw [e1]
          exact w2 _ S2 H2 (u1.trans u2) s2 e2
      · exact w2.elim
    · exact w1.elim)
end
end RL

/-! RL22: a comprehension within a comprehension. -/
namespace RL
open PySem L2
theorem re_gen {f : Str × NameKind → Str × NameKind} (hf : ∀ n k, (f (n, k) = (n, .cell) ∧ k = .free) ∨ f (n, k) = (n, k)) : ∀ {names : List (Str × NameKind)} {x : Str} {k : NameKind}, names.lookup x = some k → k = .cell ∨ k = .free →
    (names.map f).lookup x = some .cell ∨ (names.map f).lookup x = some .free
  | [], x, k, h, _ => by simp at h
  | (n, k') :: r, x, k, h, hk => by
    have ih := @re_gen f hf r x k
    rw [List.map_cons]
    cases hx : x == n with
    | true =>
      simp only [List.lookup_cons, hx] at h
      cases h
      rcases hf n k' with ⟨e, _⟩ | e
      · rw [e]; left; simp only [List.lookup_cons, hx]
      · rw [e]; simp only [List.lookup_cons, hx]
        rcases hk with rfl | rfl
        · exact .inl rfl
        · exact .inr rfl
    | false =>
      simp only [List.lookup_cons, hx] at h
      rcases hf n k' with ⟨e, _⟩ | e
      · rw [e]; simp only [List.lookup_cons, hx]; exact ih h hk
      · rw [e]; simp only [List.lookup_cons, hx]; exact ih h hk
theorem blkOk_re {N : List Str} {sc scope : Scope} {env : Env} {own : List (Str × Nat)} (h : blkC N sc scope own = true) : BlkOk N (relabel sc env) scope own := by
  have b := blkOk_by h
  have hf : ∀ (n : Str) (k : NameKind), ((if (k == NameKind.free && env.scope.kind == .function && env.kindOf n == some .cell) = true then (n, NameKind.cell) else (n, k)) = (n, NameKind.cell) ∧ k = .free) ∨ (if (k == NameKind.free && env.scope.kind == .function && env.kindOf n == some .cell) = true then (n, NameKind.cell) else (n, k)) = (n, k) := fun n k => by
    split
    · rename_i h
      rw [Bool.and_eq_true, Bool.and_eq_true] at h
      refine .inl ⟨rfl, ?_⟩
      have := h.1.1
      cases k <;> first | rfl | cases this
    · exact .inr rfl
  refine ⟨b.kind, b.uniq, b.ix, fun y hy e => ?_, b.own⟩
  rcases b.free y hy e with z | z
  · exact re_gen hf z (.inl rfl)
  · exact re_gen hf z (.inr rfl)
end RL

/-! RL23: instances of one's own, cells reached through them, defs and methods that are handed cells. -/
namespace RL
open PySem L2
/-! ### fields of an instance of one's own -/
def putS (f : Str) (d : Sl) : List (Str × Sl) → List (Str × Sl)
  | [] => [(f, d)]
  | (g, e) :: r => if g = f then (g, d) :: r else (g, e) :: putS f d r
section
variable {K : PySem.W.Frag} {S : Hp}
theorem fls_look {f : Str} : ∀ {fs : List (Str × Sl)} {vs : List (Str × V)}, flsOk K S fs vs → match fs.lookup f with
    | some s => ∃ v, vs.lookup f = some v ∧ slOk K S s (some v)
    | none => vs.lookup f = none
  | [], vs, r => by
    have e : vs = [] := r
    subst e; rfl
  | (k, s) :: l, vs, r => by
    obtain ⟨v, t, rfl, q, rs⟩ := r
    rw [List.lookup_cons, List.lookup_cons]
    cases f == k with
    | true => exact ⟨v, rfl, q⟩
    | false => exact fls_look rs
theorem fls_len : ∀ {fs : List (Str × Sl)} {vs : List (Str × V)}, flsOk K S fs vs → vs.length = fs.length
  | [], vs, r => by
    have e : vs = [] := r
    subst e; rfl
  | (k, s) :: l, vs, r => by
    obtain ⟨v, t, rfl, q, rs⟩ := r
    rw [List.length_cons, List.length_cons, fls_len rs]
theorem fls_put {f : Str} {s : Sl} {v : V} (h : slOk K S s (some v)) : ∀ {fs : List (Str × Sl)} {vs : List (Str × V)}, flsOk K S fs vs → flsOk K S (putS f s fs) (putF f v vs)
  | [], vs, r => by
    have e : vs = [] := r
    subst e
    exact ⟨v, [], rfl, h, rfl⟩
  | (g, e) :: l, vs, r => by
    obtain ⟨u, t, rfl, q, rs⟩ := r
    show flsOk K S (if g = f then (g, s) :: l else (g, e) :: putS f s l) (if g = f then (g, v) :: t else (g, u) :: putF f v t)
    by_cases hg : g = f
    · rw [if_pos hg, if_pos hg]
      exact ⟨v, t, rfl, h, rs⟩
    · rw [if_neg hg, if_neg hg]
      exact ⟨u, _, rfl, q, fls_put h rs⟩
end
/-! ### a cell's name, or a field that holds it -/
def At (F : Fr) (ρ : List Sl) (Γ : Ga) (e : Expr) (q : Addr) : Prop := ∀ S H σ Q, StOk F.X.K F.en S H σ ρ Γ → Q (.ref q) H → We F.X e σ H Q
section
variable {F : Fr} {ρ : List Sl} {Γ : Ga} {e o : Expr} {pos : Pos} {p q : Addr} {x f c : Str} {fs : List (Str × Sl)} {d : D}
theorem at_var (i : Nat) (hs : ρ[i]? = some (.at q)) (hN : F.X.N[i]? = some x := by rfl) (hv : Vis F.X.env.scope x := by first | exact Or.inl rfl | exact Or.inr (Or.inl rfl) | exact Or.inr (Or.inr rfl))
    (h1 : (x == ("__debug__" : Str)) = false := by decide) (h2 : (x == ("__classdict__" : Str)) = false := by decide) : At F ρ Γ (.Name x pos) q := fun S H σ Q s h => by
  obtain ⟨o, e, h0⟩ := s.sl.get hs
  have h0 : o = some (.ref q) := h0
  subst h0
  exact We.of (pe_var hN hv h1 h2) ⟨_, e, h⟩
theorem at_fld (j : Nat) (ho : At F ρ Γ o p) (hc : Γ[j]? = some (p, .ins c fs)) (hf : fs.lookup f = some (.at q)) (cl : Cls F.X.K (He.ga F.X.K c)) (na : NoAttr F.X.K (He.ga F.X.K c) f) (hb : attributeBase o f F.X.env (eval o F.X.env) = eval o F.X.env := by rfl) :
    At F ρ Γ (.Attribute o f pos) q := fun S H σ Q s h => We.of (pe_fld pe_We hb) (ho S H σ _ s (by
  obtain ⟨_, _, ob, h3, dx, vs, rfl, rs⟩ := s.hg.ga.ce p _ (mem_at hc)
  have lk := fls_look (f := f) rs
  rw [hf] at lk
  obtain ⟨v, l, z⟩ := lk
  have z : some v = some (.ref q) := z
  cases z
  exact ⟨p, _, dx, vs, _, rfl, h3, cl, na, l, h⟩))
theorem e_fldC (j : Nat) (ho : At F ρ Γ o p) (hc : Γ[j]? = some (p, .ins c fs)) (hf : fs.lookup f = some (.is d)) (cl : Cls F.X.K (He.ga F.X.K c)) (na : NoAttr F.X.K (He.ga F.X.K c) f) (hb : attributeBase o f F.X.env (eval o F.X.env) = eval o F.X.env := by rfl) :
    E F ρ Γ (.Attribute o f pos) (.ok d) := fun S H σ Q s w => We.of (pe_fld pe_We hb) (ho S H σ _ s (by
  obtain ⟨_, _, ob, h3, dx, vs, rfl, rs⟩ := s.hg.ga.ce p _ (mem_at hc)
  have lk := fls_look (f := f) rs
  rw [hf] at lk
  obtain ⟨v, l, v', z, rv⟩ := lk
  cases z
  exact ⟨p, _, dx, vs, _, rfl, h3, cl, na, l, w v S H (Sub.refl S) s rv⟩))
theorem er_at (j : Nat) {c : Ce} (ho : At F ρ Γ e q) (hc : Γ[j]? = some (q, c)) (hl : c.ld = true := by rfl) : Er F ρ Γ e (.ok (ceD c)) := fun S H σ Q s w =>
  ho S H σ _ s (w _ S H (Sub.refl S) s fun S2 H2 u2 g2 => g2.cell hc hl)
end
theorem er_atD {F : Fr} {ρ : List Sl} {Γ : Ga} {e : Expr} {q : Addr} (j : Nat) {l : List (Key × D)} (ho : At F ρ Γ e q) (hc : Γ[j]? = some (q, .dic l)) : Er F ρ Γ e (.ok (.dic l)) := er_at j ho hc rfl
theorem er_atL {F : Fr} {ρ : List Sl} {Γ : Ga} {e : Expr} {q : Addr} (j : Nat) {l : List D} (ho : At F ρ Γ e q) (hc : Γ[j]? = some (q, .lst l)) : Er F ρ Γ e (.ok (.lst l)) := er_at j ho hc rfl
/-! ### what a call does to cells -/
theorem Hg.callN {K : PySem.W.Frag} {en : En} {S H S' H' : Hp} {Γ Γ' Γ2 : Ga} {O : List Addr} (g : Hg K en S H Γ) (up : Sub S S') (g' : Hg K ⟨H, S, O⟩ S' H' Γ') (hO : ∀ p ∈ O, p ∈ en.O ∨ en.H0 p = none)
    (nd : (Γ2.map (·.1)).Nodup) (hm : ∀ p c, (p, c) ∈ Γ2 → (p, c) ∈ Γ' ∨ ((p, c) ∈ Γ ∧ p ∉ O)) : Hg K en S' H' Γ2 := by
  refine ⟨⟨g'.hp.sub, fun a o na e => ?_, fun a o e => ?_, g.hp.oh, g.hp.s0.trans up, fun a o e => ?_⟩, ⟨fun p c h => ?_, nd⟩⟩
  · refine g'.hp.keep a o (fun z => ?_) (g.hp.keep a o na e)
    rcases hO a z with y | y
    · exact na y
    · rw [y] at e; cases e
  · obtain ⟨u, h⟩ := g.hp.there a o e
    exact g'.hp.there a u h
  · rcases g'.hp.fresh a o e with ⟨u, h⟩ | h
    · exact g.hp.fresh a u h
    · exact .inr (g.h0 h)
  · rcases hm p c h with h | ⟨h, na⟩
    · obtain ⟨h1, h2, h3⟩ := g'.ga.ce p c h
      refine ⟨h1, ?_, h3⟩
      rcases h2 with h2 | h2
      · exact hO p h2
      · exact .inr (g.h0 h2)
    · obtain ⟨h1, h2, o, h3, h4⟩ := g.ga.ce p c h
      refine ⟨?_, h2, o, g'.hp.keep p o na h3, h4.mono up⟩
      cases z : S' p with
      | none => rfl
      | some u =>
        rcases g'.hp.fresh p u z with ⟨u', hu⟩ | hu
        · exact absurd (h1.symm.trans hu) (by intro z; cases z)
        · exact absurd (h3.symm.trans hu) (by intro z; cases z)
/-- cells at places -/
def Pick (Γ : Ga) : List Nat → Ga → Prop
  | [], [] => True
  | j :: js, x :: xs => Γ[j]? = some x ∧ Pick Γ js xs
  | _, _ => False
def setG (Γ : Ga) : List Nat → Ga → Ga
  | j :: js, x :: xs => setG (Γ.set j x) js xs
  | _, _ => Γ
def PickA (as : List Addr) : List Nat → List Addr → Prop
  | [], [] => True
  | j :: js, x :: xs => as[j]? = some x ∧ PickA as js xs
  | _, _ => False
theorem Pick.a {Γ : Ga} : ∀ {js : List Nat} {xs : Ga}, Pick Γ js xs → PickA (Γ.map (·.1)) js (xs.map (·.1))
  | [], [], _ => trivial
  | j :: js, x :: xs, h => ⟨by rw [List.getElem?_map, h.1]; rfl, Pick.a h.2⟩
  | [], _ :: _, h => h.elim
  | _ :: _, [], h => h.elim
theorem Pick.mem {Γ : Ga} : ∀ {js : List Nat} {xs : Ga}, Pick Γ js xs → ∀ y ∈ xs, y ∈ Γ
  | [], [], _, _, h => nomatch h
  | j :: js, x :: xs, h, y, hy => by
    rcases List.mem_cons.mp hy with e | hy
    · subst e; exact mem_at h.1
    · exact Pick.mem h.2 y hy
  | [], _ :: _, h, _, _ => h.elim
  | _ :: _, [], h, _, _ => h.elim
theorem PickA.at {as : List Addr} : ∀ {js : List Nat} {xs : List Addr}, PickA as js xs → ∀ x ∈ xs, ∃ j ∈ js, as[j]? = some x
  | [], [], _, _, h => nomatch h
  | j :: js, x :: xs, h, y, hy => by
    rcases List.mem_cons.mp hy with e | hy
    · subst e; exact ⟨j, List.mem_cons_self, h.1⟩
    · obtain ⟨k, hk, e⟩ := PickA.at h.2 y hy
      exact ⟨k, List.mem_cons_of_mem _ hk, e⟩
  | [], _ :: _, h, _, _ => h.elim
  | _ :: _, [], h, _, _ => h.elim
theorem PickA.nd {as : List Addr} (n : as.Nodup) : ∀ {js : List Nat} {xs : List Addr}, PickA as js xs → js.Nodup → xs.Nodup
  | [], [], _, _ => List.nodup_nil
  | j :: js, x :: xs, h, hj => by
    rw [List.nodup_cons] at hj ⊢
    refine ⟨fun hm => ?_, PickA.nd n h.2 hj.2⟩
    obtain ⟨k, hk, e⟩ := PickA.at h.2 x hm
    obtain ⟨l1, e1⟩ := List.getElem?_eq_some_iff.mp h.1
    obtain ⟨l2, e2⟩ := List.getElem?_eq_some_iff.mp e
    exact hj.1 ((List.getElem_inj n).mp (e1.trans e2.symm) ▸ hk)
  | [], _ :: _, h, _ => h.elim
  | _ :: _, [], h, _ => h.elim
theorem setG_as : ∀ {js : List Nat} {xs : Ga} {Γ : Ga}, PickA (Γ.map (·.1)) js (xs.map (·.1)) → (setG Γ js xs).map (·.1) = Γ.map (·.1)
  | [], [], _, _ => rfl
  | j :: js, x :: xs, Γ, h => by
    have e : (Γ.set j x).map (·.1) = Γ.map (·.1) := by
      rw [List.map_set]
      exact set_self h.1
    show (setG (Γ.set j x) js xs).map (·.1) = _
    rw [setG_as (by rw [e]; exact h.2), e]
  | [], _ :: _, _, h => h.elim
  | _ :: _, [], _, h => h.elim
theorem setG_mem : ∀ {js : List Nat} {xs : Ga} {Γ : Ga} {y : Addr × Ce}, y ∈ setG Γ js xs → y ∈ xs ∨ ∃ n, n ∉ js ∧ Γ[n]? = some y ∨ (xs.length < js.length)
  | [], xs, Γ, y, h => by
    have h : y ∈ Γ := by unfold setG at h; exact h
    obtain ⟨n, hn⟩ := List.getElem?_of_mem h
    exact .inr ⟨n, .inl ⟨List.not_mem_nil, hn⟩⟩
  | j :: js, [], Γ, y, h => .inr ⟨0, .inr (by simp)⟩
  | j :: js, x :: xs, Γ, y, h => by
    rcases setG_mem (js := js) (xs := xs) (Γ := Γ.set j x) h with h | ⟨n, ⟨h1, h2⟩ | h1⟩
    · exact .inl (List.mem_cons_of_mem _ h)
    · by_cases e : j = n
      · subst e
        by_cases l : j < Γ.length
        · rw [List.getElem?_set_self l] at h2
          cases h2
          exact .inl List.mem_cons_self
        · rw [List.getElem?_eq_none (by rw [List.length_set]; omega)] at h2
          cases h2
      · rw [List.getElem?_set_ne e] at h2
        refine .inr ⟨n, .inl ⟨fun z => ?_, h2⟩⟩
        rcases List.mem_cons.mp z with z | z
        · exact e z.symm
        · exact h1 z
    · exact .inr ⟨n, .inr (by simpa using h1)⟩
theorem PickA.len {as : List Addr} : ∀ {js : List Nat} {xs : List Addr}, PickA as js xs → xs.length = js.length
  | [], [], _ => rfl
  | j :: js, x :: xs, h => by rw [List.length_cons, List.length_cons, PickA.len h.2]
  | [], _ :: _, h => h.elim
  | _ :: _, [], h => h.elim
theorem setG_self : ∀ {js : List Nat} {xs : Ga} {Γ : Ga}, Pick Γ js xs → setG Γ js xs = Γ
  | [], [], _, _ => rfl
  | j :: js, x :: xs, Γ, h => by
    show setG (Γ.set j x) js xs = Γ
    rw [set_self h.1]
    exact setG_self h.2
  | [], _ :: _, _, h => h.elim
  | _ :: _, [], _, h => h.elim
section
variable {K : PySem.W.Frag} {en : En} {S H S' H' : Hp} {Γ Γh Γ' : Ga} {js : List Nat}
theorem Hg.part (g : Hg K en S H Γ) (hp : Pick Γ js Γh) (hj : js.Nodup) : Hg K ⟨H, S, Γh.map (·.1)⟩ S H Γh := by
  refine ⟨⟨g.hp.sub, fun a o _ e => e, fun a o e => ⟨o, e⟩, fun p hm => ?_, Sub.refl S, fun a o e => .inl ⟨o, e⟩⟩, ⟨fun p c hm => ?_, hp.a.nd g.ga.nd hj⟩⟩
  · obtain ⟨⟨q, c⟩, hq, e⟩ := List.mem_map.mp hm
    have e : q = p := e
    subst e
    obtain ⟨_, _, o, h3, _⟩ := g.ga.ce q c (hp.mem _ hq)
    exact ⟨o, h3⟩
  · obtain ⟨h1, _, h3⟩ := g.ga.ce p c (hp.mem _ hm)
    exact ⟨h1, .inl (List.mem_map.mpr ⟨(p, c), hm, rfl⟩), h3⟩
theorem Hg.callM (g : Hg K en S H Γ) (hp : Pick Γ js Γh) (hj : js.Nodup) (up : Sub S S') (g' : Hg K ⟨H, S, Γh.map (·.1)⟩ S' H' Γ') (ha : Γ'.map (·.1) = Γh.map (·.1)) : Hg K en S' H' (setG Γ js Γ') := by
  have pa : PickA (Γ.map (·.1)) js (Γ'.map (·.1)) := by rw [ha]; exact hp.a
  refine g.callN up g' (fun p hm => ?_) (by rw [setG_as pa]; exact g.ga.nd) fun p c hm => ?_
  · obtain ⟨⟨q, c⟩, hq, e⟩ := List.mem_map.mp hm
    have e : q = p := e
    subst e
    exact (g.ga.ce q c (hp.mem _ hq)).2.1
  · rcases setG_mem hm with h | ⟨n, ⟨h1, h2⟩ | h1⟩
    · exact .inl h
    · refine .inr ⟨mem_at h2, fun z => ?_⟩
      obtain ⟨k, hk, e⟩ := hp.a.at p z
      have e2 : (Γ.map (·.1))[n]? = some p := by rw [List.getElem?_map, h2]; rfl
      obtain ⟨l1, e1⟩ := List.getElem?_eq_some_iff.mp e
      obtain ⟨l2, e3⟩ := List.getElem?_eq_some_iff.mp e2
      exact h1 ((List.getElem_inj g.ga.nd).mp (e1.trans e3.symm) ▸ hk)
    · have := pa.len
      rw [List.length_map] at this
      omega
end
end RL

/-! RL24: defs and methods that are handed cells; calls of these within expressions. -/
namespace RL
open PySem L2
/-- the slots of arguments, some of them cells -/
def fill : List (Option Addr) → List D → List Sl
  | [], _ => []
  | some p :: r, ds => .at p :: fill r ds
  | none :: r, d :: ds => .is d :: fill r ds
  | none :: r, [] => .un :: fill r []
theorem fill_len : ∀ (sh : List (Option Addr)) (ds : List D), (fill sh ds).length = sh.length
  | [], _ => rfl
  | some p :: r, ds => by rw [fill, List.length_cons, List.length_cons, fill_len r ds]
  | none :: r, d :: ds => by rw [fill, List.length_cons, List.length_cons, fill_len r ds]
  | none :: r, [] => by rw [fill, List.length_cons, List.length_cons, fill_len r []]
section
variable (K : PySem.W.Frag) {γi γo : Type}
/-- what a def promises that is handed cells: what it tells, what they hold then; a refusal leaves them as they were -/
def spM (sh : (Nat → Addr) → List (Option Addr)) (gi : (Nat → Addr) → γi → Ga) (go : (Nat → Addr) → Al → γi → γo → Ga) (G : List D → γi → Res (D × γo)) : Sp := fun vs H Q Er => ∃ S ps ds c, slsOk K S (fill (sh ps) ds) (vs.map some) ∧
  Hg K ⟨H, S, (gi ps c).map (·.1)⟩ S H (gi ps c) ∧
  (G ds c).wp (fun r => ∀ α v S' H', Sub S S' → Hg K ⟨H, S, (gi ps c).map (·.1)⟩ S' H' (go ps α c r.2) → rep K S' r.1 v → Q v H')
    (fun k => ∀ S' H', Sub S S' → Hg K ⟨H, S, (gi ps c).map (·.1)⟩ S' H' (gi ps c) → Er (.ref (He.ga K k)) none H')
end
section
variable (P : Program) (w : World) (K : PySem.W.Frag) (mg : Str → Option Value) (base : Heap) {γi γo : Type}
def Kn3 (x : Str) (k : Nat) (sh : (Nat → Addr) → List (Option Addr)) (gi : (Nat → Addr) → γi → Ga) (go : (Nat → Addr) → Al → γi → γo → Ga) (G : List D → γi → Res (D × γo)) : Prop :=
  ∃ f fd ps, FnOk P w K mg base (L2.CX P w) k f fd ps (spM K sh gi go G) ∧ mg x = some (.ref f) ∧ PySem.W.keepIn K (.ref f) = true ∧ Binds K fd ps []
def Kn3M (c m : Str) (k : Nat) (sh : (Nat → Addr) → List (Option Addr)) (gi : (Nat → Addr) → γi → Ga) (go : (Nat → Addr) → Al → γi → γo → Ga) (G : List D → γi → Res (D × γo)) : Prop :=
  ∃ f fd ps, FnOk P w K mg base (L2.CX P w) k f fd ps (spM K sh gi go G) ∧ Meth K (He.ga K c) m f ∧ Cls K (He.ga K c) ∧ Binds K fd ps []
end
abbrev Fr.Kn3 (F : Fr) {γi γo : Type} := @RL.Kn3 F.X.prog F.X.w F.X.K F.X.mg F.X.base γi γo
abbrev Fr.Kn3M (F : Fr) {γi γo : Type} := @RL.Kn3M F.X.prog F.X.w F.X.K F.X.mg F.X.base γi γo
/-- arguments, some of them cells -/
def EaS (F : Fr) (ρ : List Sl) (Γ : Ga) (sh : List (Option Addr)) (es : List Expr) (m : Res (List D)) : Prop := ∀ S H σ Q, StOk F.X.K F.en S H σ ρ Γ →
  m.wp (fun ds => ∀ us S' H', Sub S S' → StOk F.X.K F.en S' H' σ ρ Γ → slsOk F.X.K S' (fill sh ds) (us.map some) → Q us H') (Xw F ρ Γ σ) → Wa F.X es σ H Q
/-- an expression that may change cells -/
def EM (F : Fr) (ρ : List Sl) {γ : Type} (g : γ → Al → Ga) (c : γ) (α : Al) (e : Expr) (m : Res (D × γ)) : Prop := ∀ S H σ Q, StOk F.X.K F.en S H σ ρ (g c α) →
  m.wp (fun r => ∀ α v S' H', Sub S S' → StOk F.X.K F.en S' H' σ ρ (g r.2 α) → rep F.X.K S' r.1 v → Q v H') (Xw F ρ (g c α) σ) → We F.X e σ H Q
def TM (F : Fr) (ρ : List Sl) {γ : Type} (g : γ → Al → Ga) (c : γ) (α : Al) (e : Expr) (m : Res (Bool × γ)) : Prop := ∀ S H σ Q, StOk F.X.K F.en S H σ ρ (g c α) →
  m.wp (fun r => ∀ α S' H', Sub S S' → StOk F.X.K F.en S' H' σ ρ (g r.2 α) → Q r.1 H') (Xw F ρ (g c α) σ) → Wt F.X e σ H Q
def TMw (F : Fr) (ρ : List Sl) {γ : Type} (g : γ → Al → Ga) (c : γ) (α : Al) (e : Expr) (m : Res (Bool × γ)) : Prop := ∀ S H σ Q, StOk F.X.K F.en S H σ ρ (g c α) →
  m.wp (fun r => ∀ α S' H', Sub S S' → StOk F.X.K F.en S' H' σ ρ (g r.2 α) → Q r.1 H') (Xw F ρ (g c α) σ) → Ww F.X e σ H Q
def EaM (F : Fr) (ρ : List Sl) {γ : Type} (g : γ → Al → Ga) (c : γ) (α : Al) (es : List Expr) (m : Res (List D × γ)) : Prop := ∀ S H σ Q, StOk F.X.K F.en S H σ ρ (g c α) →
  m.wp (fun r => ∀ α us S' H', Sub S S' → StOk F.X.K F.en S' H' σ ρ (g r.2 α) → reps F.X.K S' r.1 us → Q us H') (Xw F ρ (g c α) σ) → Wa F.X es σ H Q
section
variable {F : Fr} {ρ : List Sl} {Γ : Ga} {a b e o : Expr} {pos p apos : Pos} {ma : Res D} {es : List Expr} {ms : Res (List D)} {x : Str} {k : Nat} {q : Addr} {sh : List (Option Addr)} {γ γi γo : Type}
theorem eas_nil : EaS F ρ Γ [] [] (.ok []) := fun S H σ Q s w => Wa.of pa_nil (w [] S H (Sub.refl S) s rfl)
theorem eas_val (ha : E F ρ Γ a ma) (h : EaS F ρ Γ sh es ms) (hs : starEach (a :: es) F.X.env = (false, eval a F.X.env) :: starEach es F.X.env := by rfl) :
    EaS F ρ Γ (none :: sh) (a :: es) (ma.bind fun x => ms.bind fun xs => .ok (x :: xs)) := fun S H σ Q s w =>
  Wa.of (pa_cons pe_We pa_Wa hs) (ha.go s w fun d v S1 H1 u1 s1 r1 w1 => h S1 H1 σ _ s1 (Res.wp_mono (Res.wp_bind w1) (fun ds z us S2 H2 u2 s2 r2 =>
    z (v :: us) S2 H2 (u1.trans u2) s2 ⟨_, _, rfl, ⟨v, rfl, rep_mono u2 _ _ r1⟩, r2⟩) fun _ z S' H' s' => z S' H' s'))
theorem eas_at (ha : At F ρ Γ a q) (h : EaS F ρ Γ sh es ms) (hs : starEach (a :: es) F.X.env = (false, eval a F.X.env) :: starEach es F.X.env := by rfl) :
    EaS F ρ Γ (some q :: sh) (a :: es) ms := fun S H σ Q s w =>
  Wa.of (pa_cons pe_We pa_Wa hs) (ha S H σ _ s (h S H σ _ s (Res.wp_mono w (fun ds z us S2 H2 u2 s2 r2 => z (.ref q :: us) S2 H2 u2 s2 ⟨_, _, rfl, rfl, r2⟩) fun _ z => z)))
def ub {γ α : Type} (m : γ → α) (r : D × γ) : α := m r.2
def ui {γ α : Type} (ma mb : γ → α) (r : Bool × γ) : α := if r.1 = true then ma r.2 else mb r.2
def ur {τ β κ γ : Type} (fc : γ → κ) (r : D × γ) : Res (Fl τ β κ) := .ok (.rt r.1 (fc r.2))
def ua {γ : Type} (n : γ → Res (Bool × γ)) (r : Bool × γ) : Res (Bool × γ) := if r.1 = true then noE (n r.2) else .ok (false, r.2)
def uo {γ : Type} (n : γ → Res (Bool × γ)) (r : Bool × γ) : Res (Bool × γ) := if r.1 = true then .ok (true, r.2) else noE (n r.2)
def sndM {γ γo : Type} (up : γo → γ) (r : D × γo) : D × γ := (r.1, up r.2)
def mapR {α β : Type} (f : α → β) : Res α → Res β
  | .ok a => .ok (f a)
  | .exc k => .exc k
  | .stuck => .stuck
theorem wp_mapR {α β : Type} {f : α → β} {m : Res α} {P : β → Prop} {R : Str → Prop} (h : (mapR f m).wp P R) : m.wp (fun a => P (f a)) R := by
  cases m <;> exact h
section
variable {shf : (Nat → Addr) → List (Option Addr)} {gi : (Nat → Addr) → γi → Ga} {go : (Nat → Addr) → Al → γi → γo → Ga} {G : List D → γi → Res (D × γo)} {g : γ → Al → Ga} {c : γ} {α : Al} {ci : γi} {ps : Nat → Addr} {js : List Nat} {up : γo → γ}
theorem spM_of {S H σ Q vs ds} (s : StOk F.X.K F.en S H σ ρ (g c α)) (hp : Pick (g c α) js (gi ps ci)) (hj : js.Nodup) (ha : ∀ α o, (go ps α ci o).map (·.1) = (gi ps ci).map (·.1)) (hu : ∀ α1 o, g (up o) α1 = setG (g c α) js (go ps α1 ci o))
    (r : slsOk F.X.K S (fill (shf ps) ds) (vs.map some)) (w : (G ds ci).wp (fun r => ∀ α v S' H', Sub S S' → StOk F.X.K F.en S' H' σ ρ (g (up r.2) α) → rep F.X.K S' r.1 v → Q v H') (Xw F ρ (g c α) σ)) : spM F.X.K shf gi go G vs H Q (WE F.W σ) := by
  refine ⟨S, ps, ds, ci, r, s.hg.part hp hj, Res.wp_mono w (fun r z α v S' H' u g' rv => z α v S' H' u ⟨?_, s.sl.mono u⟩ rv) fun k z S' H' u g' => z S' H' ⟨?_, s.sl.mono u⟩⟩
  · rw [hu]
    exact s.hg.callM hp hj u g' (ha _ _)
  · have := s.hg.callM hp hj u g' rfl
    rw [setG_self hp] at this
    exact this
/-- f(.. cells ..) -/
theorem em_call (T : F.Kn3 x k shf gi go G) (hr : Room k F.X.A) (h : EaS F ρ (g c α) (shf ps) (a :: es) ms) (hp : Pick (g c α) js (gi ps ci)) (hj : js.Nodup) (ha : ∀ α o, (go ps α ci o).map (·.1) = (gi ps ci).map (·.1)) (hu : ∀ α1 o, g (up o) α1 = setG (g c α) js (go ps α1 ci o)) (hg : Gl F.X x := by rfl)
    (hdb : (x == ("__debug__" : Str)) = false := by decide) (he : starEach (a :: es) F.X.env = (false, eval a F.X.env) :: starEach es F.X.env := by rfl) (hpl : (backTo pos (starEach es F.X.env)).any (·.1) = false := by rfl) :
    EM F ρ g c α (.Call (.Name x p) (a :: es) [] pos) (ms.bind fun ds => mapR (sndM up) (G ds ci)) := fun S H σ Q s w => by
  obtain ⟨f, fd, pr, Fn, hm, hk, hb⟩ := T
  refine We.of (pe_callS (E := WE F.W) Fn hr hg hm hk hb (fun σ => passAt F.tk σ) pa_Wa hdb he hpl) (h S H σ _ s (Res.wp_mono (Res.wp_bind w) (fun ds w1 us S1 H1 u1 s1 r1 => ?_) fun _ z => z))
  exact spM_of s1 hp hj ha hu r1 (Res.wp_mono (wp_mapR w1) (fun r z α v S' H' u s' rv => z α v S' H' (u1.trans u) s' rv) fun _ z => z)
/-- o.m(.. ), o a cell -/
theorem em_meth {cl m : Str} {fs : List (Str × Sl)} {po : Addr} {sh : List (Option Addr)} (j : Nat) (T : F.Kn3M cl m k shf gi go G) (hr : Room k F.X.A) (ho : At F ρ (g c α) o po) (hc : (g c α)[j]? = some (po, .ins cl fs)) (hf : fs.lookup m = none) (hsh : shf ps = some po :: sh)
    (h : EaS F ρ (g c α) sh (a :: es) ms) (hp : Pick (g c α) js (gi ps ci)) (hj : js.Nodup) (ha : ∀ α o, (go ps α ci o).map (·.1) = (gi ps ci).map (·.1)) (hu : ∀ α1 o, g (up o) α1 = setG (g c α) js (go ps α1 ci o)) {pl : Sem Bool}
    (hst : starEach (a :: es) F.X.env = (false, eval a F.X.env) :: starEach es F.X.env := by rfl) (hpl : (backTo pos (starEach es F.X.env)).any (·.1) = false := by rfl)
    (ht : eval (.Call (.Attribute o m apos) (a :: es) [] pos) F.X.env = (do
      let ov ← eval o F.X.env
      standAt apos.atName
      let (f, first) ← holding [ov] (getMethod ov m pl)
      callWith pos f first (backTo pos (starEach (a :: es) F.X.env)) (backToKw pos (keywordEach [] F.X.env))) := by rfl) :
    EM F ρ g c α (.Call (.Attribute o m apos) (a :: es) [] pos) (ms.bind fun ds => mapR (sndM up) (G ds ci)) := fun S H σ Q s w => by
  obtain ⟨f, fd, pr, Fn, hm, hcl, hb⟩ := T
  obtain ⟨_, _, ob, h3, dx, vs, rfl, rs⟩ := s.hg.ga.ce po _ (mem_at hc)
  have lk := fls_look (f := m) rs
  rw [hf] at lk
  refine We.of (We.meth pe_We pa_Wa hst hpl ht) (ho S H σ _ s ⟨po, _, dx, vs, f, fd, pr, k, _, rfl, h3, lk, hcl, hm, Fn, hr, hb, h S H σ _ s (Res.wp_mono (Res.wp_bind w) (fun ds w1 us S1 H1 u1 s1 r1 => ?_) fun _ z => z)⟩)
  refine spM_of s1 hp hj ha hu (vs := .ref po :: us) (ds := ds) ?_ (Res.wp_mono (wp_mapR w1) (fun r z α v S' H' u s' rv => z α v S' H' (u1.trans u) s' rv) fun _ z => z)
  rw [hsh]
  exact ⟨_, _, rfl, rfl, r1⟩
theorem em_meth0 {cl m : Str} {fs : List (Str × Sl)} {po : Addr} (j : Nat) (T : F.Kn3M cl m k shf gi go G) (hr : Room k F.X.A) (ho : At F ρ (g c α) o po) (hc : (g c α)[j]? = some (po, .ins cl fs)) (hf : fs.lookup m = none) (hsh : shf ps = [some po])
    (hp : Pick (g c α) js (gi ps ci)) (hj : js.Nodup) (ha : ∀ α o, (go ps α ci o).map (·.1) = (gi ps ci).map (·.1)) (hu : ∀ α1 o, g (up o) α1 = setG (g c α) js (go ps α1 ci o)) {pl : Sem Bool}
    (ht : eval (.Call (.Attribute o m apos) [] [] pos) F.X.env = (do
      let ov ← eval o F.X.env
      standAt apos.atName
      let (f, first) ← holding [ov] (getMethod ov m pl)
      callWith pos f first (backTo pos (starEach [] F.X.env)) (backToKw pos (keywordEach [] F.X.env))) := by rfl) :
    EM F ρ g c α (.Call (.Attribute o m apos) [] [] pos) (mapR (sndM up) (G [] ci)) := fun S H σ Q s w => by
  obtain ⟨f, fd, pr, Fn, hm, hcl, hb⟩ := T
  obtain ⟨_, _, ob, h3, dx, vs, rfl, rs⟩ := s.hg.ga.ce po _ (mem_at hc)
  have lk := fls_look (f := m) rs
  rw [hf] at lk
  refine We.of (We.meth0 pe_We ht) (ho S H σ _ s ⟨po, _, dx, vs, f, fd, pr, k, _, rfl, h3, lk, hcl, hm, Fn, hr, hb, ?_⟩)
  refine spM_of s hp hj ha hu (vs := [.ref po]) (ds := []) ?_ (wp_mapR w)
  rw [hsh]
  exact ⟨_, _, rfl, rfl, rfl⟩
end
/-! reading alone -/
theorem E.of_EM {m : Res (D × Unit)} {α : Al} (h : EM F ρ (fun (_ : Unit) _ => Γ) () α e m) : E F ρ Γ e (mapR (·.1) m) := fun S H σ Q s w =>
  h S H σ Q s (Res.wp_mono (wp_mapR w) (fun r z _ => z) fun _ z => z)
section
variable {g : γ → Al → Ga} {c : γ} {α : Al}
def thenC {α γ : Type} (c : γ) (m : Res α) : Res (α × γ) := noE (mapR (fun d => (d, c)) m)
def uv {γ : Type} (r : D × γ) : Res (Bool × γ) := mapR (fun b => (b, r.2)) (asB r.1)
theorem em_of (h : E F ρ (g c α) e ma) : EM F ρ g c α e (thenC c ma) := fun S H σ Q s w => h S H σ Q s (Res.wp_mono (wp_mapR (noE_wp w)) (fun r z => z α) fun _ z => z)
theorem tm_of {mb : Res Bool} (h : T F ρ (g c α) e mb) : TM F ρ g c α e (thenC c mb) := fun S H σ Q s w => h S H σ Q s (Res.wp_mono (wp_mapR (noE_wp w)) (fun r z => z α) fun _ z => z)
theorem tm_val {m : Res (D × γ)} (h : EM F ρ g c α e m) (he : ∀ whole, isTrue e F.X.env whole = (do let v ← whole; standAt e.pos; holding [v] (truthy v)) := by intro _; rfl) : TM F ρ g c α e (m.bind uv) := fun S H σ Q s w =>
  Wt.of (pt_val pe_We he) (h S H σ _ s (Res.wp_mono (Res.wp_bind w) (fun r z α v S' H' u s' rv => by
    obtain ⟨d, c'⟩ := r
    have z : (mapR (fun b => (b, c')) (asB d)).wp _ _ := z
    unfold asB at z
    split at z
    · exact ⟨_, rep_bl_eq rv, z α S' H' u s'⟩
    · exact z.elim) fun _ z => z))
theorem tm_not {m : Res (Bool × γ)} (h : TM F ρ g c α e m) : TM F ρ g c α (.UnaryOp .Not e pos) (mapR (fun r => (!r.1, r.2)) m) := fun S H σ Q s w =>
  Wt.of (pt_not pt_Wt) (h S H σ _ s (Res.wp_mono (wp_mapR w) (fun r z α S' H' u s' => z α S' H' u s') fun _ z => z))
theorem tm_w {m : Res (Bool × γ)} (h : TMw F ρ g c α e m) : TM F ρ g c α e m := fun S H σ Q s w => Wt.of (pw_Ww.pt) (h S H σ Q s w)
theorem tmw_and1 {m : Res (Bool × γ)} (h : TM F ρ g c α e m) : TMw F ρ g c α (.BoolOp .And [e] pos) m := fun S H σ Q s w => Ww.of (pw_and1 pt_Wt) (h S H σ Q s w)
theorem tmw_or1 {m : Res (Bool × γ)} (h : TM F ρ g c α e m) : TMw F ρ g c α (.BoolOp .Or [e] pos) m := fun S H σ Q s w => Ww.of (pw_or1 pt_Wt) (h S H σ Q s w)
theorem tmw_and {rest : List Expr} {m : Res (Bool × γ)} {n : γ → Res (Bool × γ)} (h : TM F ρ g c α e m) (k : ∀ c α, TMw F ρ g c α (.BoolOp .And (b :: rest) pos) (n c)) : TMw F ρ g c α (.BoolOp .And (e :: b :: rest) pos) (m.bind (ua n)) := fun S H σ Q s w =>
  Ww.of (pw_and pt_Wt pw_Ww) (h S H σ _ s (Res.wp_mono (Res.wp_bind w) (fun r w1 α1 S1 H1 u1 s1 => by
    obtain ⟨z, c'⟩ := r
    cases z with
    | true => exact k c' α1 S1 H1 σ Q s1 (Res.wp_mono (noE_wp (R' := fun _ => False) w1) (fun d z α S' H' u s' => z α S' H' (u1.trans u) s') fun _ z => z.elim)
    | false => exact w1 α1 S1 H1 u1 s1) fun _ z => z))
theorem tmw_or {rest : List Expr} {m : Res (Bool × γ)} {n : γ → Res (Bool × γ)} (h : TM F ρ g c α e m) (k : ∀ c α, TMw F ρ g c α (.BoolOp .Or (b :: rest) pos) (n c)) : TMw F ρ g c α (.BoolOp .Or (e :: b :: rest) pos) (m.bind (uo n)) := fun S H σ Q s w =>
  Ww.of (pw_or pt_Wt pw_Ww) (h S H σ _ s (Res.wp_mono (Res.wp_bind w) (fun r w1 α1 S1 H1 u1 s1 => by
    obtain ⟨z, c'⟩ := r
    cases z with
    | false => exact k c' α1 S1 H1 σ Q s1 (Res.wp_mono (noE_wp (R' := fun _ => False) w1) (fun d z α S' H' u s' => z α S' H' (u1.trans u) s') fun _ z => z.elim)
    | true => exact w1 α1 S1 H1 u1 s1) fun _ z => z))
/-- and/or as values -/
def ue {γ : Type} (mes : γ → Res (List D)) (r : D × γ) : Res (List D × γ) := noE (mapR (fun ds => (r.1 :: ds, r.2)) (mes r.2))
def ut {γ : Type} (G : List D → Res D) (r : List D × γ) : Res (D × γ) := thenC r.2 (G r.1)
theorem em_one {op} {m : Res (D × γ)} (h : EM F ρ g c α a m) : EM F ρ g c α (.BoolOp op [a] pos) m := fun S H σ Q s w => We.of (pe_one pe_We) (h S H σ Q s w)
/-- arguments, the first of which changes cells -/
theorem eam_cons {m : Res (D × γ)} {mes : γ → Res (List D)} (ha : EM F ρ g c α a m) (h : ∀ c α, Ea F ρ (g c α) es (mes c)) (hs : starEach (a :: es) F.X.env = (false, eval a F.X.env) :: starEach es F.X.env := by rfl) :
    EaM F ρ g c α (a :: es) (m.bind (ue mes)) := fun S H σ Q s w =>
  Wa.of (pa_cons pe_We pa_Wa hs) (ha S H σ _ s (Res.wp_mono (Res.wp_bind w) (fun r w1 α1 v S1 H1 u1 s1 rv => h r.2 α1 S1 H1 σ _ s1
    (Res.wp_mono (wp_mapR (noE_wp w1)) (fun ds z us S2 H2 u2 s2 r2 => z α1 (v :: us) S2 H2 (u1.trans u2) s2 (reps_cons (rep_mono u2 _ _ rv) r2)) fun _ z => z)) fun _ z => z))
/-- f(e, ..), f a def, e changes cells -/
theorem em_pcall {m : Res (List D × γ)} {G : List D → Res D} (T : F.Kn x k G) (hr : Room k F.X.A) (h : EaM F ρ g c α (a :: es) m) (hg : Gl F.X x := by rfl)
    (hdb : (x == ("__debug__" : Str)) = false := by decide) (he : starEach (a :: es) F.X.env = (false, eval a F.X.env) :: starEach es F.X.env := by rfl) (hpl : (backTo pos (starEach es F.X.env)).any (·.1) = false := by rfl) :
    EM F ρ g c α (.Call (.Name x p) (a :: es) [] pos) (m.bind (ut G)) := fun S H σ Q s w => by
  obtain ⟨f, fd, ps, Fn, hm, hk, hb⟩ := T
  exact We.of (pe_callS (E := WE F.W) Fn hr hg hm hk hb (fun σ => passAt F.tk σ) pa_Wa hdb he hpl) (h S H σ _ s (Res.wp_mono (Res.wp_bind w) (fun r w1 α1 vs S1 H1 u1 s1 r1 =>
    spD_of s1 r1 (Res.wp_mono (wp_mapR (noE_wp w1)) (fun d z v S' H' u s' rv => z α1 v S' H' (u1.trans u) s' rv) fun _ z => z)) fun _ z => z))
end
end
/-! ### statements -/
section
variable {τ τ' β κ : Type} {F : FrS} {o : τ → Al → List Sl × Ga} {o' : τ' → Al → List Sl × Ga} {ob : β → Al → List Sl × Ga} {oc : κ → Al → Ga} {ρ : List Sl} {Γ : Ga} {rest : List Stmt} {ks : List (List Stmt)} {pos : Pos} {γ : Type} {g : γ → Al → Ga} {c : γ} {α : Al} {i : Nat} {e : Expr} {x : Str} {me : Res (D × γ)}
theorem s_setM {mr : D → γ → Res (Fl τ β κ)} {pos' : Pos} (he : EM F.toFr ρ g c α e me) (hr : ∀ d c α, SJ F o ob oc rest ks (ρ.set i (.is d)) (g c α) (mr d c)) (hN : F.X.N.Nodup) (hi : F.X.N[i]? = some x) (hx : Loc F.X.env.scope x) (ha : F.al ρ (g c α))
    (hs : swapsWith e (some (.Name x pos')) pos.line F.X.env = pure false := by rfl) (hf : F.X.fn x = true ∨ F.X.env.scope.names.lookup x = some .local := by first | exact .inl rfl | exact .inr rfl) :
    SJ F o ob oc (.Assign [.Name x pos'] e pos :: rest) ks ρ (g c α) (me.bind (uc mr)) := fun S H σ D s w =>
  WSs.of (pss_cons (ps_set hN hi hx pe_We hs hf) pss_W) (he S H σ _ s (Res.wp_mono (Res.wp_bind w) (fun r w1 α1 v S1 H1 u1 s1 rv => (hr r.1 r.2 α1).run ⟨s1.hg, s1.sl.set i ⟨v, rfl, rv⟩⟩ u1 w1) fun _ z => xw_of ha z))
theorem s_exprM {mr : γ → Res (Fl τ β κ)} (he : EM F.toFr ρ g c α e me) (hr : ∀ c α, SJ F o ob oc rest ks ρ (g c α) (mr c)) (ha : F.al ρ (g c α)) (hs : swapsWith e none pos.line F.X.env = pure false := by rfl) :
    SJ F o ob oc (.Expr e pos :: rest) ks ρ (g c α) (me.bind (ub mr)) := fun S H σ D s w =>
  WSs.of (pss_cons (ps_expr pe_We hs) pss_W) (he S H σ _ s (Res.wp_mono (Res.wp_bind w) (fun r w1 α1 v S1 H1 u1 s1 rv => (hr r.2 α1).run s1 u1 w1) fun _ z => xw_of ha z))
theorem s_retM {fc : γ → κ} (he : EM F.toFr ρ g c α e me) (f : ∀ c α, ∃ β, Fewer (g c α) (oc (fc c) β)) (ha : F.al ρ (g c α)) (hq : ∀ d v S H G, F.rt d v S H G := by exact fun _ _ _ _ _ => True.intro) : SJ F o ob oc (.Return (some e) pos :: rest) ks ρ (g c α) (me.bind (ur fc)) := fun S H σ D s w =>
  WSs.of (pss_cons (ps_ret pe_We) (pss_never (sts := rest))) (he S H σ _ s (Res.wp_mono (Res.wp_bind w) (fun r w1 α1 v S1 H1 u1 s1 rv => by
    obtain ⟨β1, f1⟩ := f r.2 α1
    exact w1 β1 v S1 H1 u1 ⟨s1.hg.hp, s1.hg.ga.fewer f1⟩ rv (hq _ _ _ _ _)) fun _ z => xw_of ha z))
theorem s_ifM {cd : Expr} {a b : List Stmt} {mc : Res (Bool × γ)} {ma mb : γ → Res (Fl τ β κ)} (ht : TM F.toFr ρ g c α cd mc) (h1 : ∀ c α, SJ F o ob oc a (rest :: ks) ρ (g c α) (ma c)) (h2 : ∀ c α, SJ F o ob oc b (rest :: ks) ρ (g c α) (mb c)) (ha : F.al ρ (g c α)) :
    SJ F o ob oc (.If cd a b pos :: rest) ks ρ (g c α) (mc.bind (ui ma mb)) := fun S H σ D s w =>
  WSs.of (pss_cons (ps_if pt_Wt pss_W pss_W) pss_W) (ht S H σ _ s (Res.wp_mono (Res.wp_bind w) (fun r w1 α1 S1 H1 u1 s1 => by
    obtain ⟨k, c'⟩ := r
    cases k with
    | true => exact (h1 c' α1).run s1 u1 w1
    | false => exact (h2 c' α1).run s1 u1 w1) fun _ z => xw_of ha z))
/-- o.f = e -/
theorem w_fset {a v : Expr} {p : Addr} {f cl : Str} {fs : List (Str × Sl)} {pos' : Pos} {mv : Res D} {S H σ} {D : Ends} {Γ : Ga} (j : Nat) (ho : At F.toFr ρ Γ a p) (he : E F.toFr ρ Γ v mv) (hc : Γ[j]? = some (p, .ins cl fs)) (cls : Cls F.X.K (He.ga F.X.K cl)) (na : NoAttr F.X.K (He.ga F.X.K cl) f) (hl : fs.length < 1000)
    (hs : swapsWith v (some (.Attribute a f pos')) pos.line F.X.env = pure false) (s : StOk F.X.K F.en S H σ ρ Γ)
    (w : mv.wp (fun d => ∀ S' H', Sub S S' → StOk F.X.K F.en S' H' σ ρ (Γ.set j (p, .ins cl (putS f (.is d) fs))) → WSs F.X rest D σ H') (Xw F.toFr ρ Γ σ)) : WSs F.X (.Assign [.Attribute a f pos'] v pos :: rest) D σ H := by
  refine WSs.of (pss_cons (ps_fld pe_We pe_We hs) pss_W) (he S H σ _ s (Res.wp_mono w (fun d z y S1 H1 u1 s1 r1 => ho S1 H1 σ _ s1 ?_) fun _ z => z))
  obtain ⟨_, _, ob, h3, dx, vs, rfl, rs⟩ := s1.hg.ga.ce p _ (mem_at hc)
  refine ⟨p, _, dx, vs, rfl, h3, cls, na, by rw [fls_len rs]; exact hl, ?_⟩
  exact z S1 _ u1 ⟨s1.hg.write hc ⟨dx, _, rfl, fls_put (s := .is d) (v := y) ⟨y, rfl, r1⟩ rs⟩, s1.sl⟩
theorem s_fset {a v : Expr} {p : Addr} {f cl : Str} {fs : List (Str × Sl)} {pos' : Pos} {mv : Res D} {mr : D → Res (Fl τ β κ)} (j : Nat) (ho : At F.toFr ρ Γ a p) (he : E F.toFr ρ Γ v mv) (hc : Γ[j]? = some (p, .ins cl fs)) (cls : Cls F.X.K (He.ga F.X.K cl)) (na : NoAttr F.X.K (He.ga F.X.K cl) f)
    (hr : ∀ d, SJ F o ob oc rest ks ρ (Γ.set j (p, .ins cl (putS f (.is d) fs))) (mr d)) (ha : F.al ρ Γ) (hl : fs.length < 1000 := by exact Nat.le_of_ble_eq_true rfl) (hs : swapsWith v (some (.Attribute a f pos')) pos.line F.X.env = pure false := by rfl) :
    SJ F o ob oc (.Assign [.Attribute a f pos'] v pos :: rest) ks ρ Γ (mv.bind mr) := fun S H σ D s w =>
  w_fset j ho he hc cls na hl hs s (Res.wp_mono (Res.wp_bind w) (fun d z S' H' u s' => (hr d).run s' u z) fun _ z => xw_of ha z)
end
end RL

/-! RL25: dicts of one's own reached by a name or a field: stores, pops, loops; a def's body that is handed cells. -/
namespace RL
open PySem L2
section
variable {τ τ' β κ : Type} {F : FrS} {o : τ → Al → List Sl × Ga} {o' : τ' → Al → List Sl × Ga} {ob : β → Al → List Sl × Ga} {oc : κ → Al → Ga} {ρ : List Sl} {Γ : Ga} {rest : List Stmt} {ks : List (List Stmt)} {pos : Pos} {a b e : Expr} {ma mb me : Res D} {q : Addr} {l : List (Key × D)}
/-- a[k] = e -/
theorem s_setDA {mr : List (Key × D) → Res (Fl τ β κ)} {p3 : Pos} (j : Nat) (hu : F.X.A.units + 1 < cLine) (ho : At F.toFr ρ Γ a q) (hc : Γ[j]? = some (q, .dic l)) (he : E F.toFr ρ Γ e me) (hb : E F.toFr ρ Γ b mb) (hr : ∀ l', SJ F o ob oc rest ks ρ (Γ.set j (q, .dic l')) (mr l')) (ha : F.al ρ Γ)
    (hsw : swapsWith e (some (.Subscript a b p3)) pos.line F.X.env = pure false := by rfl) :
    SJ F o ob oc (.Assign [.Subscript a b p3] e pos :: rest) ks ρ Γ (me.bind fun d => mb.bind fun k => (setDic l k d).bind mr) := fun S H σ D s w => by
  refine WSs.of (pss_cons (ps_dput hu pe_We pe_We pe_We hsw) pss_W) (he.at ha s w fun d v S1 H1 u1 s1 r1 w1 => ho S1 H1 σ _ s1 (hb.at ha s1 w1 fun k v2 S2 H2 u2 s2 r2 w2 => ?_))
  obtain ⟨_, _, o1, h5, vs1, rfl, rs1⟩ := s2.hg.ga.ce q _ (mem_at hc)
  unfold setDic at w2
  cases q3 : asKey k with
  | ok kk =>
    rw [q3] at w2
    have w2 : (Res.bind (if l.length < sizeLine then .ok (putKD l kk d) else .stuck) mr).wp _ _ := w2
    have r3 := rep_key (P := fun k' => k' = kk) (R := fun _ => False) r2 (by rw [q3]; rfl)
    obtain ⟨k', rfl, e3⟩ := r3
    subst e3
    split at w2
    · rename_i hl
      exact ⟨q, _, rfl, DPut.k h5 (by rw [repk_len rs1]; exact hl), (hr _).run ⟨s2.hg.write hc ⟨_, rfl, repk_put (rep_mono u2 _ _ r1) rs1⟩, s2.sl⟩ (u1.trans u2) w2⟩
    · exact w2.elim
  | exc c =>
    exfalso
    unfold asKey at q3; split at q3 <;> cases q3
  | stuck => rw [q3] at w2; exact w2.elim
def dropKD (l : List (Key × D)) (k : Key) : List (Key × D) := l.filter fun p => decide (p.1 ≠ k)
/-- a.pop(k), for nothing, k there -/
def popD (l : List (Key × D)) (d : D) : Res (List (Key × D)) := (asKey d).bind fun k => if (D.look l k).isSome = true then .ok (dropKD l k) else .stuck
theorem look_drop {K : PySem.W.Frag} {S : Hp} {k : Key} : ∀ {l : List (Key × D)} {vs : List (Key × V)}, repk K S l vs → repk K S (dropKD l k) (dropK vs k)
  | [], vs, r => by unfold repk at r; subst r; unfold dropKD dropK List.filter repk; rfl
  | (j, d) :: l, vs, r => by
    unfold repk at r
    obtain ⟨v, t, rfl, q, rs⟩ := r
    have ih := look_drop (k := k) rs
    unfold dropKD dropK at ih ⊢
    rw [List.filter_cons, List.filter_cons]
    by_cases z : j = k
    · rw [if_neg (by simp [z]), if_neg (by simp [z])]
      exact ih
    · rw [if_pos (by simp [z]), if_pos (by simp [z])]
      unfold repk
      exact ⟨v, _, rfl, q, ih⟩
theorem s_popA {mr : List (Key × D) → Res (Fl τ β κ)} {apos cpos : Pos} (j : Nat) (ho : At F.toFr ρ Γ a q) (hc : Γ[j]? = some (q, .dic l)) (hb : E F.toFr ρ Γ b mb) (hr : ∀ l', SJ F o ob oc rest ks ρ (Γ.set j (q, .dic l')) (mr l')) (ha : F.al ρ Γ)
    (m1 : attributeBase a "pop" F.X.env (eval a F.X.env) = eval a F.X.env := by rfl)
    (m2 : ((backTo cpos (starEach [b] F.X.env)).all (fun x => !x.1) && (backToKw cpos (keywordEach [] F.X.env)).all (fun x => x.1.isSome) && decide (([b] : List Expr).length + ([] : List Keyword).length + (if ([] : List Keyword).isEmpty then 0 else 1) < 30)) = true := by rfl)
    (m3 : (apos.endLine == cpos.line) = true := by rfl) (m4 : backTo cpos (starEach [b] F.X.env) = [(false, eval b F.X.env)] := by rfl)
    (hs : swapsWith (.Call (.Attribute a "pop" apos) [b] [] cpos) none pos.line F.X.env = pure false := by rfl) :
    SJ F o ob oc (.Expr (.Call (.Attribute a "pop" apos) [b] [] cpos) pos :: rest) ks ρ Γ (mb.bind fun k => (popD l k).bind mr) := fun S H σ D s w => by
  refine WSs.of (pss_cons (ps_expr (pe_dpop1 pe_We pe_We ⟨m1, m2, m3, m4⟩) hs) pss_W) (ho S H σ _ s ?_)
  obtain ⟨_, _, o0, h4, vs0, rfl, rs0⟩ := s.hg.ga.ce q _ (mem_at hc)
  refine ⟨q, rfl, .inl ⟨vs0, .inl h4⟩, hb.at ha s w fun k v2 S2 H2 u2 s2 r2 w2 => ?_⟩
  obtain ⟨_, _, o1, h5, vs1, rfl, rs1⟩ := s2.hg.ga.ce q _ (mem_at hc)
  unfold popD at w2
  cases q3 : asKey k with
  | ok kk =>
    rw [q3] at w2
    have w2 : (Res.bind (if (RL.D.look l kk).isSome = true then .ok (dropKD l kk) else .stuck) mr).wp _ _ := w2
    have r3 := rep_key (P := fun k' => k' = kk) (R := fun _ => False) r2 (by rw [q3]; rfl)
    obtain ⟨k', rfl, e3⟩ := r3
    subst e3
    split at w2
    · rename_i hl
      have lk := repk_look (k := k') rs1
      cases q4 : RL.D.look l k' with
      | none => rw [q4] at hl; cases hl
      | some d =>
        rw [q4] at lk
        obtain ⟨v, e1, _⟩ := lk
        exact ⟨vs1, k', v, h5, rfl, e1, (hr _).run ⟨s2.hg.write hc ⟨_, rfl, look_drop rs1⟩, s2.sl⟩ u2 w2⟩
    · exact w2.elim
  | exc c =>
    exfalso
    unfold asKey at q3; split at q3 <;> cases q3
  | stuck => rw [q3] at w2; exact w2.elim
/-- a loop whose body tells nothing -/
def castE {τ β κ : Type} : Res (Fl τ β Empty) → Res (Fl τ β κ)
  | .ok (.nx t) => .ok (.nx t)
  | .ok (.bk t) => .ok (.bk t)
  | .ok (.ct t) => .ok (.ct t)
  | .ok (.rt _ e) => nomatch e
  | .exc k => .exc k
  | .stuck => .stuck
theorem repk_getV {K : PySem.W.Frag} {S : Hp} : ∀ {l : List (Key × D)} {vs : List (Key × V)} {i : Nat} {k : Key} {x : V}, repk K S l vs → vs[i]? = some (k, x) → ∃ d, l[i]? = some (k, d) ∧ rep K S d x
  | [], vs, i, k, x, r, e => by unfold repk at r; subst r; simp at e
  | (j, d) :: l, vs, 0, k, x, r, e => by
    unfold repk at r
    obtain ⟨v, t, rfl, q, _⟩ := r
    simp at e
    obtain ⟨rfl, rfl⟩ := e
    exact ⟨d, rfl, q⟩
  | (j, d) :: l, vs, i + 1, k, x, r, e => by
    unfold repk at r
    obtain ⟨v, t, rfl, _, rs⟩ := r
    obtain ⟨d', h1, h2⟩ := repk_getV (i := i) rs (by simpa using e)
    exact ⟨d', by simpa using h1, h2⟩
/-- the cells, q locked -/
abbrev lkG (j : Nat) (q : Addr) (od : Obj) (vs : List (Key × V)) (l : List (Key × D)) (Γ : Ga) : Ga := Γ.set j (q, .fz od vs l)
theorem set_set_self {α : Type} {l : List α} {i : Nat} {x y : α} (h : l[i]? = some x) : (l.set i y).set i x = l := by
  rw [List.set_set]
  exact set_self h
theorem wp_loopC {α : Type} {d : α} {r : List α} {t : τ'} {f : α → τ' → Res (Fl τ' τ' Empty)} {g : τ' → Res (Fl τ β κ)} {P : Fl τ β κ → Prop} {R : Str → Prop} (h : (andThen (castE (loop (d :: r) t f)) g).wp P R) :
    (f d t).wp (fun x => match x with
      | .nx t => (andThen (castE (loop r t f)) g).wp P R
      | .ct t => (andThen (castE (loop r t f)) g).wp P R
      | .bk t => (g t).wp P R
      | .rt _ e => nomatch e) R := by
  unfold loop at h
  cases q : f d t with
  | ok x => rw [q] at h; cases x with
    | rt d e => exact nomatch e
    | nx t => exact h
    | ct t => exact h
    | bk t => exact h
  | exc k => rw [q] at h; exact h
  | stuck => rw [q] at h; exact h
theorem s_forL {tg iter : Expr} {body : List Stmt} {f : D → Res (List D)} {is : List Nat} {mb : List D → τ' → Res (Fl τ' τ' Empty)} {mr : τ' → Res (Fl τ β κ)} {fd : Key × D → D} {It' : Addr → Obj → List (Key × V) → It} {Y : List (Key × V) → Nat → Hp → V → Hp → Prop} (jj : Nat) (s0 : τ') (iw : TE → TI)
    (hpi : ∀ {te : TE}, PE F.X a te → PI F.X tg iter (iw te)) (hiw : ∀ σ H R d o kvs, (∀ Q : VK, Q (.ref d) H → We F.X a σ H Q) → H d = some (.frz o (.dK kvs)) → R (It' d o kvs) H → iw (We F.X a) σ H R)
    (hW : ∀ d o kvs, Walk (It' d o kvs) kvs.length (fun H => H d = some (.frz o (.dK kvs))) (Y kvs)) (hY : ∀ (K : PySem.W.Frag) S l kvs i H x H', repk K S l kvs → Y kvs i H x H' → H' = H ∧ ∃ kv, l[i]? = some kv ∧ rep K S (fd kv) x)
    (ho : ∀ t α (od : Obj) vs, At F.toFr (o' t α).1 (lkG jj q od vs l (o' t α).2) a q) (ht : Tj F.toFr tg f is) (α0 : Al) (hα0 : AOk F.en.O α0) (w0 : Wk ρ (o' s0 α0).1) (f0 : Fewer Γ (o' s0 α0).2) (hq : ∀ t α, (o' t α).2[jj]? = some (q, .dic l))
    (hb : ∀ od vs ds t α, AOk F.en.O α → SJ F (fun t α => ((o' t α).1, lkG jj q od vs l (o' t α).2)) (fun t α => ((o' t α).1, lkG jj q od vs l (o' t α).2)) (fun e : Empty => nomatch e) body [] (setAll (o' t α).1 is ds) (lkG jj q od vs l (o' t α).2) (mb ds t)) (hr : ∀ t α, AOk F.en.O α → SJ F o ob oc rest ks (o' t α).1 (o' t α).2 (mr t))
    (hc : F.X.calm = true) (po : PassesOwn (model F.X.prog F.X.w) F.X.A F.X.env F.X.xe) (hs : ∀ x, foldedSetIterable iter F.X.env x = pure x := by intro _; rfl) :
    SJ F o ob oc (.For tg iter body [] pos :: rest) ks ρ Γ (andThen (castE (loop (l.map fd) s0 fun d t => (f d).bind fun xs => mb xs t)) mr) := fun S H σ D s w => by
  have s1 := s.weak w0 f0
  obtain ⟨hS, hO, ob1, h4, vs, rfl, rs⟩ := s1.hg.ga.ce q _ (mem_at (hq s0 α0))
  refine WSs.of (pss_cons (ps_lock (ps_for po hc (hpi pe_We) pg_W pss_W hs)) pss_W) ⟨q, .dK vs, h4, trivial, fun od => ?_⟩
  have lt : ∀ t α, jj < (o' t α).2.length := fun t α => by
    obtain ⟨h, _⟩ := List.getElem?_eq_some_iff.mp (hq t α)
    exact h
  have lk : ∀ {t α S' H' σ'}, StOk F.X.K F.en S' H' σ' (o' t α).1 (lkG jj q od vs l (o' t α).2) → H' q = some (.frz od (.dK vs)) := fun {t α S' H' σ'} s' => by
    obtain ⟨_, _, o2, e1, e2⟩ := s'.hg.ga.ce q (.fz od vs l) (mem_at (List.getElem?_set_self (lt t α)))
    have e2 : o2 = .frz od (.dK vs) := e2.1
    rw [e2] at e1; exact e1
  have un : ∀ {t α S' H' σ'}, Sub S S' → StOk F.X.K F.en S' H' σ' (o' t α).1 (lkG jj q od vs l (o' t α).2) → StOk F.X.K F.en S' (upd H' q (.dK vs)) σ' (o' t α).1 (o' t α).2 := fun {t α S' H' σ'} u s' => by
    have g := s'.hg.write (c' := .dic l) (List.getElem?_set_self (lt t α)) ⟨vs, rfl, repk_mono u _ _ rs⟩
    rw [set_set_self (hq t α)] at g
    exact ⟨g, s'.sl⟩
  have s2 : StOk F.X.K F.en S (upd H q (.frz od (.dK vs))) σ (o' s0 α0).1 (lkG jj q od vs l (o' s0 α0).2) := ⟨s1.hg.write (hq s0 α0) ⟨rfl, rs⟩, s1.sl⟩
  refine hiw _ _ _ q od vs (fun Q h => ho s0 α0 od vs S _ σ Q s2 h) upd_same ?_
  have el : vs.length = l.length := repk_len rs
  refine for_it (hW q od vs) (fun i σ H => ∃ t α S2, AOk F.en.O α ∧ Sub S S2 ∧ StOk F.X.K F.en S2 H σ (o' t α).1 (lkG jj q od vs l (o' t α).2) ∧ (andThen (castE (loop ((l.map fd).drop i) t fun d t => (f d).bind fun xs => mb xs t)) mr).wp (FlW F o ob oc S D) (Xs F))
    ⟨s0, α0, S, hα0, Sub.refl S, s2, w⟩ (fun i σ H _ ⟨t, α, S2, _, _, s', _⟩ => lk s') ?_ ?_
  · rintro i x σ2 H2 H3 hi2 ⟨t, α, S2, hα, u0, s2, w2⟩ y
    obtain ⟨rfl, kv, hd, rd⟩ := hY _ _ _ _ _ _ _ _ (repk_mono u0 _ _ rs) y
    have e : (l.map fd).drop i = fd kv :: (l.map fd).drop (i + 1) := by
      obtain ⟨h1, h2⟩ := List.getElem?_eq_some_iff.mp hd
      rw [List.drop_eq_getElem_cons (by rw [List.length_map]; exact h1), List.getElem_map, h2]
    rw [e] at w2
    have w3 := wp_loopC w2
    refine ht S2 H3 σ2 x (fd kv) _ _ _ (Xs F) s2 rd (Res.wp_mono (Res.wp_bind w3) (fun xs w4 us s' => ?_) fun _ z => z)
    refine (hb od vs xs t α hα).body (S := S2) _ s' (Sub.refl S2) (Res.wp_mono w4 (fun x q => ?_) fun _ z => z)
    cases x with
    | nx t' => exact fun α hα S' H' σ'' u' s'' => ⟨t', α, S', hα, u0.trans u', s'', q⟩
    | ct t' => exact fun α hα S' H' σ'' u' s'' => ⟨t', α, S', hα, u0.trans u', s'', q⟩
    | bk t' => exact fun α hα S' H' σ'' u' s'' => ⟨lk s'', (hr t' α hα).run (un (u0.trans u') s'') (u0.trans u') q⟩
    | rt d c => exact nomatch c
  · rintro σ2 H2 ⟨t, α, S2, hα, u0, s2, w2⟩
    rw [List.drop_eq_nil_of_le (by rw [List.length_map]; omega)] at w2
    exact ⟨lk s2, (hr t α hα).run (un u0 s2) u0 w2⟩
/-- for x in a.values() -/
theorem s_forVals {tg : Expr} {apos cpos : Pos} {body : List Stmt} {f : D → Res (List D)} {is : List Nat} {mb : List D → τ' → Res (Fl τ' τ' Empty)} {mr : τ' → Res (Fl τ β κ)} (jj : Nat) (s0 : τ')
    (ho : ∀ t α (od : Obj) vs, At F.toFr (o' t α).1 (lkG jj q od vs l (o' t α).2) a q) (ht : Tj F.toFr tg f is) (α0 : Al) (hα0 : AOk F.en.O α0) (w0 : Wk ρ (o' s0 α0).1) (f0 : Fewer Γ (o' s0 α0).2) (hq : ∀ t α, (o' t α).2[jj]? = some (q, .dic l))
    (hb : ∀ od vs ds t α, AOk F.en.O α → SJ F (fun t α => ((o' t α).1, lkG jj q od vs l (o' t α).2)) (fun t α => ((o' t α).1, lkG jj q od vs l (o' t α).2)) (fun e : Empty => nomatch e) body [] (setAll (o' t α).1 is ds) (lkG jj q od vs l (o' t α).2) (mb ds t)) (hr : ∀ t α, AOk F.en.O α → SJ F o ob oc rest ks (o' t α).1 (o' t α).2 (mr t))
    (hc : F.X.calm = true) (po : PassesOwn (model F.X.prog F.X.w) F.X.A F.X.env F.X.xe) (hb1 : attributeBase a "values" F.X.env (eval a F.X.env) = eval a F.X.env := by rfl) (hl1 : (apos.endLine == cpos.line) = true := by rfl) (hs : ∀ x, foldedSetIterable (.Call (.Attribute a "values" apos) [] [] cpos) F.X.env x = pure x := by intro _; rfl) :
    SJ F o ob oc (.For tg (.Call (.Attribute a "values" apos) [] [] cpos) body [] pos :: rest) ks ρ Γ (andThen (castE (loop (l.map fun kv => kv.2) s0 fun d t => (f d).bind fun xs => mb xs t)) mr) :=
  s_forL (It' := fun d o kvs => Itd d o kvs) (Y := fun kvs i H x H' => H' = H ∧ ∃ k, kvs[i]? = some (k, x)) jj s0 iVals (fun h => pi_values h hb1 hl1) (fun _ _ _ d o kvs h e r => h _ ⟨d, o, kvs, rfl, e, r⟩) (fun d o kvs => walk_values)
    (fun K S l kvs i H x H' r y => ⟨y.1, by obtain ⟨_, k, y⟩ := y; obtain ⟨d, h1, h2⟩ := repk_getV r y; exact ⟨_, h1, h2⟩⟩) ho ht α0 hα0 w0 f0 hq hb hr hc po hs
def keyOf : Key → D
  | .inl i => .int i
  | .inr x => .str x
/-- for x in a, a dict -/
theorem s_forKeys {tg : Expr} {body : List Stmt} {f : D → Res (List D)} {is : List Nat} {mb : List D → τ' → Res (Fl τ' τ' Empty)} {mr : τ' → Res (Fl τ β κ)} (jj : Nat) (s0 : τ')
    (ho : ∀ t α (od : Obj) vs, At F.toFr (o' t α).1 (lkG jj q od vs l (o' t α).2) a q) (ht : Tj F.toFr tg f is) (α0 : Al) (hα0 : AOk F.en.O α0) (w0 : Wk ρ (o' s0 α0).1) (f0 : Fewer Γ (o' s0 α0).2) (hq : ∀ t α, (o' t α).2[jj]? = some (q, .dic l))
    (hb : ∀ od vs ds t α, AOk F.en.O α → SJ F (fun t α => ((o' t α).1, lkG jj q od vs l (o' t α).2)) (fun t α => ((o' t α).1, lkG jj q od vs l (o' t α).2)) (fun e : Empty => nomatch e) body [] (setAll (o' t α).1 is ds) (lkG jj q od vs l (o' t α).2) (mb ds t)) (hr : ∀ t α, AOk F.en.O α → SJ F o ob oc rest ks (o' t α).1 (o' t α).2 (mr t))
    (hc : F.X.calm = true) (po : PassesOwn (model F.X.prog F.X.w) F.X.A F.X.env F.X.xe) (hs : ∀ x, foldedSetIterable a F.X.env x = pure x := by intro _; rfl) :
    SJ F o ob oc (.For tg a body [] pos :: rest) ks ρ Γ (andThen (castE (loop (l.map fun kv => keyOf kv.1) s0 fun d t => (f d).bind fun xs => mb xs t)) mr) :=
  s_forL (It' := fun d o kvs => Itk d o kvs) (Y := fun kvs i H x H' => H' = H ∧ ∃ k v, kvs[i]? = some (k, v) ∧ x = kV k) jj s0 iKeys (fun h => pi_keys h) (fun _ _ _ d o kvs h e r => h _ ⟨d, o, rfl, .inl ⟨kvs, e, r⟩⟩) (fun d o kvs => walk_keys)
    (fun K S l kvs i H x H' r y => ⟨y.1, by
      obtain ⟨_, k, v, y, e⟩ := y
      obtain ⟨d, h1, h2⟩ := repk_getV r y
      refine ⟨_, h1, ?_⟩
      rw [e]
      cases k with
      | inl i => exact rep_int
      | inr i => exact rep_str⟩) ho ht α0 hα0 w0 f0 hq hb hr hc po hs
end
end RL

/-! RL26: the body of a def that is handed cells; the making of an instance of one's own. -/
namespace RL
open PySem L2
/-- where a refusal may come up: anywhere (then none is told), or where the cells are as they were handed in -/
def alB (b : Bool) (Γ0 Γ : Ga) : Prop := match b with
  | true => Γ = Γ0
  | false => True
def toldB {γ : Type} (b : Bool) (m : Res (Fl γ Empty γ)) : Res (D × γ) := match b with
  | true => toldC m
  | false => noE (toldC m)
section
variable (P : Program) (w : World) (K : PySem.W.Frag) (mg : Str → Option Value) (base : Heap)
abbrev frM (b : Bool) (N : List Str) (qual : Str) (scope : Scope) (f : Addr) (cdv : Value) (A : Around) (outer : List Env) (s : Shared) (H : Hp) (Er : XK) (S0 : Hp) (Γ0 : Ga) : FrS :=
  { X := cxOf (L2.CX P w) P w K mg base N qual scope f cdv A outer s H Er, W := fun cls d _ H => Er cls d H, en := ⟨H, S0, Γ0.map (·.1)⟩, tk := takes_of rfl rfl rfl rfl, al := fun _ Γ => alB b Γ0 Γ }
end
section
variable {P : Program} {w : World} {K : PySem.W.Frag} {mg : Str → Option Value} {base : Heap} {x qual : Str} {params : Arguments} {body : List Stmt} {scope : Scope} {f : Addr} {fd : FuncData} {N ps : List Str} {k : Nat} {γi γo : Type}
theorem slsOk_app {S : Hp} (n : Nat) : ∀ {ρ : List Sl} {σ : St}, slsOk K S ρ σ → slsOk K S (ρ ++ List.replicate n Sl.un) (σ ++ List.replicate n none)
  | [], σ, r => by
    have e : σ = [] := r
    subst e; exact slsOk_un n
  | s :: ρ, σ, r => by
    obtain ⟨o, t, rfl, q, rs⟩ := r
    exact ⟨o, _, rfl, q, slsOk_app n rs⟩
theorem fn_mkM (b : Bool) {sh : (Nat → Addr) → List (Option Addr)} {gi : (Nat → Addr) → γi → Ga} {go : (Nat → Addr) → Al → γi → γo → Ga} (Fd : FunD K x qual params body scope [] [] f fd) (Sc : FnScope N ps scope) (hsh : ∀ q, (sh q).length = ps.length) (nv : Nat) (m : List D → γi → Res (Fl γo Empty γo)) (hl : ∀ ds c, ds.length ≠ nv → m ds c = .stuck)
    (hb : ∀ cdv A outer s H Er S0 q ds c, ds.length = nv → Room k (A.deeper (PyProof.Rows.envOfC qual scope s.heap.objs.size f cdv)) →
      SJ (τ := γo) (β := Empty) (κ := γo) (frM P w K mg base b N qual scope f cdv A outer s H Er S0 (gi q c)) (fun c' α => (List.replicate N.length .un, go q α c c')) ob0 (fun c' α => go q α c c') body [] (fill (sh q) ds ++ List.replicate (N.length - ps.length) Sl.un) (gi q c) (m ds c)) :
    FnOk P w K mg base (L2.CX P w) (k + 1) f fd ps (spM K sh gi go fun ds c => toldB b (m ds c)) := by
  have len : ∀ vs H Q E, spM K sh gi go (fun ds c => toldB b (m ds c)) vs H Q E → vs.length = ps.length := fun vs H Q E h => by
    obtain ⟨S, q, ds, c, r, _⟩ := h
    have := r.len
    rw [List.length_map, fill_len, hsh] at this
    exact this
  refine FunD.ok Fd Sc len fun cdv A outer s H vs Q Er hr h => ?_
  obtain ⟨S, q, ds, c, r, g0, wp⟩ := id h
  have lv := len _ _ _ _ h
  have e : ds.length = nv := by
    refine Decidable.byContradiction fun ne => ?_
    replace wp : (toldB b (m ds c)).wp _ _ := wp
    rw [hl ds c ne] at wp
    cases b <;> exact wp.elim
  refine ⟨_, pss_W, ?_⟩
  have st : StOk K ⟨H, S, (gi q c).map (·.1)⟩ S H (L2.start N vs) (fill (sh q) ds ++ List.replicate (N.length - ps.length) Sl.un) (gi q c) := by
    refine ⟨g0, ?_⟩
    unfold L2.start
    rw [lv]
    exact slsOk_app _ r
  refine (hb cdv A outer s H Er S q ds c e hr).body (S := S) _ st (Sub.refl S) ?_
  replace wp : (toldB b (m ds c)).wp _ _ := wp
  cases q2 : m ds c with
  | ok fl =>
    rw [q2] at wp
    cases fl with
    | nx t =>
      intro α _ S' H' σ' u' s'
      cases b <;> exact wp α .non S' H' u' s'.hg rep_non
    | rt d c' =>
      intro α v S' H' u' g r' _
      cases b <;> exact wp α v S' H' u' g r'
    | bk e => exact nomatch e
    | ct e => exact nomatch e
  | exc c' =>
    rw [q2] at wp
    cases b with
    | false => exact wp.elim
    | true =>
      intro ρ' Γ' S' H' σ' ha s'
      have ha : Γ' = gi q c := ha
      subst ha
      exact wp S' H' s'.hg.hp.s0 s'.hg
  | stuck => rw [q2] at wp; cases b <;> exact wp.elim
end
/-! ### making -/
section
variable {K : PySem.W.Frag} {en : En} {S H S' H' : Hp} {Γ : Ga}
/-- a new instance of one's own, with a new dict of its own -/
theorem Hg.join (g : Hg K en S H Γ) {p dx : Addr} {o o2 : HO} {Γ' : Ga} (hp : H p = none) (hd : H dx = none) (ne : dx ≠ p) (up : Sub S S') (g' : Hg K ⟨upd (upd H dx o2) p o, S, [p]⟩ S' H' Γ') : Hg K en S' H' (Γ' ++ Γ) := by
  have g1 : Hg K en S (upd (upd H dx o2) p o) Γ := (g.junk hd).junk (by rw [upd_ne (Ne.symm ne)]; exact hp)
  refine g1.callN up g' (fun a ha => ?_) ?_ fun a c hm => ?_
  · rw [List.mem_singleton.mp ha]
    exact .inr (g.h0 hp)
  · rw [List.map_append, List.nodup_append]
    refine ⟨g'.ga.nd, g.ga.nd, fun a ha b hb e => ?_⟩
    subst e
    obtain ⟨⟨a1, c1⟩, h1, e1⟩ := List.mem_map.mp ha
    obtain ⟨⟨a2, c2⟩, h2, e2⟩ := List.mem_map.mp hb
    have e1 : a1 = a := e1
    have e2 : a2 = a := e2
    subst e1; subst e2
    obtain ⟨_, z, _⟩ := g'.ga.ce _ _ h1
    obtain ⟨_, _, u, h3, _⟩ := g.ga.ce _ _ h2
    rcases z with z | z
    · rw [List.mem_singleton.mp z, hp] at h3; cases h3
    · have z : upd (upd H dx o2) p o a2 = none := z
      obtain ⟨_, _, u2, h4, _⟩ := g1.ga.ce _ _ h2
      rw [z] at h4; cases h4
  · rcases List.mem_append.mp hm with h | h
    · exact .inl h
    · refine .inr ⟨h, fun z => ?_⟩
      obtain ⟨_, _, u, h3, _⟩ := g.ga.ce _ _ h
      rw [List.mem_singleton.mp z, hp] at h3; cases h3
end
/-- what an __init__ promises whose instance gets a dict of its own; y what the fields hold -/
def spB (K : PySem.W.Frag) {γ : Type} (C : Addr) (mk : γ → Addr → Addr → Ga) (G : D → Res γ) : Sp := fun vs H Q _ => ∃ S p dx d v, vs = [.ref p, v] ∧ S p = none ∧ H p = some (.ins C dx []) ∧ Sub S H ∧ rep K S d v ∧
  (G d).wp (fun y => ∀ q S' H', Sub S S' → Hg K ⟨H, S, [p]⟩ S' H' (mk y p q) → Q .non H') (fun _ => False)
def KnB (P : Program) (w : World) (K : PySem.W.Frag) (mg : Str → Option Value) (base : Heap) (c : Str) (k : Nat) {γ : Type} (mk : γ → Addr → Addr → Ga) (G : D → Res γ) : Prop :=
  ∃ f fd ps, FnOk P w K mg base (L2.CX P w) k f fd ps (spB K (He.ga K c) mk G) ∧ Mk K (He.ga K c) f ∧ mg c = some (.ref (He.ga K c)) ∧ Binds K fd ps []
abbrev Fr.KnB (F : Fr) {γ : Type} := @RL.KnB F.X.prog F.X.w F.X.K F.X.mg F.X.base
section
variable {τ β κ : Type} {F : FrS} {o : τ → Al → List Sl × Ga} {ob : β → Al → List Sl × Ga} {oc : κ → Al → Ga} {ρ : List Sl} {Γ : Ga} {rest : List Stmt} {ks : List (List Stmt)} {pos p' cpos : Pos} {a : Expr} {ma : Res D} {i k : Nat} {x c : Str} {γ : Type} {mk : γ → Addr → Addr → Ga} {G : D → Res γ}
/-- x = C(e) -/
theorem s_make {mr : γ → Res (Fl τ β κ)} {pos' : Pos} (T : RL.KnB F.X.prog F.X.w F.X.K F.X.mg F.X.base c k mk G) (hrm : Room (k + 1) F.X.A) (he : E F.toFr ρ Γ a ma) (hr : ∀ y p q, SJ F o ob oc rest ks (ρ.set i (.at p)) (mk y p q ++ Γ) (mr y)) (hN : F.X.N.Nodup) (hi : F.X.N[i]? = some x) (hx : Loc F.X.env.scope x) (ha : F.al ρ Γ)
    (hg : Gl F.X c := by rfl) (hdb : (c == ("__debug__" : Str)) = false := by decide)
    (hst : starEach (a :: []) F.X.env = (false, eval a F.X.env) :: starEach [] F.X.env := by rfl) (hpl : (backTo cpos (starEach [] F.X.env)).any (·.1) = false := by rfl)
    (hs : swapsWith (.Call (.Name c p') [a] [] cpos) (some (.Name x pos')) pos.line F.X.env = pure false := by rfl) (hf : F.X.fn x = true ∨ F.X.env.scope.names.lookup x = some .local := by first | exact .inl rfl | exact .inr rfl) :
    SJ F o ob oc (.Assign [.Name x pos'] (.Call (.Name c p') [a] [] cpos) pos :: rest) ks ρ Γ (ma.bind fun d => (noE (G d)).bind mr) := fun S H σ D s w => by
  obtain ⟨f, fd, ps, Fn, M, hm, hb⟩ := T
  refine WSs.of (pss_cons (ps_set hN hi hx (pe_make (E := fun _ _ _ => False) M Fn hrm hg hm hb .nil (fun _ _ _ _ _ _ _ c => ?_) (pa_cons pe_We pa_nil hst) hdb hst hpl) hs hf) pss_W) (he.at ha s w fun d v S1 H1 u1 s1 r1 w1 => ?_)
  · obtain ⟨_, _, _, _, _, _, _, _, _, _, _, _, z⟩ := c
    exact z.elim
  · intro p dx hp hdx ne
    have sp := s1.hg.hp.sub.none hp
    have u2 : Sub S1 (upd (upd H1 dx (.own p)) p (.ins (He.ga F.X.K c) dx [])) := fun b u e => by
      have h := s1.hg.hp.sub b u e
      rw [upd_ne (ne_of_none h hp), upd_ne (ne_of_none h hdx)]; exact h
    refine ⟨S1, p, dx, d, v, rfl, sp, upd_same, u2, r1, ?_⟩
    cases q : G d with
    | ok y =>
      rw [q] at w1
      intro q2 S2 H2 u3 g2
      exact ⟨rfl, (hr y p q2).run ⟨s1.hg.join hp hdx ne u3 g2, (s1.sl.mono u3).set i rfl⟩ (u1.trans u3) w1⟩
    | exc k =>
      rw [q] at w1; exact w1.elim
    | stuck => rw [q] at w1; exact w1.elim
end
end RL

/-! RL27: behind a change no refusal comes; a field that gets a new dict; argument lists as mirrors want them. -/
namespace RL
open PySem L2
section
variable {τ β κ : Type} {F : FrS} {o : τ → Al → List Sl × Ga} {ob : β → Al → List Sl × Ga} {oc : κ → Al → Ga} {ρ : List Sl} {Γ : Ga} {sts rest : List Stmt} {ks : List (List Stmt)} {pos : Pos}
abbrev FrS.qu (F : FrS) : FrS := { F with al := fun _ _ => True }
theorem s_quiet {m : Res (Fl τ β κ)} (h : SJ F.qu o ob oc sts ks ρ Γ m) : SJ F o ob oc sts ks ρ Γ (noE m) := fun S H σ D s w =>
  h S H σ D s (Res.wp_mono (noE_wp (R' := fun _ => False) w) (fun x q => by cases x <;> exact q) fun _ z => z.elim)
theorem w_fsetN {γ : Type} {kk : γ → Ce} {mc : Res γ} {a v : Expr} {p : Addr} {f cl : Str} {fs : List (Str × Sl)} {pos' : Pos} {S H σ} {D : Ends} (j : Nat) (ho : ∀ q c, At F.toFr ρ ((q, kk c) :: Γ) a p) (he : EF F.toFr ρ Γ kk v mc) (hc : Γ[j]? = some (p, .ins cl fs))
    (cls : Cls F.X.K (He.ga F.X.K cl)) (na : NoAttr F.X.K (He.ga F.X.K cl) f) (hl : fs.length < 1000) (hs : swapsWith v (some (.Attribute a f pos')) pos.line F.X.env = pure false) (s : StOk F.X.K F.en S H σ ρ Γ)
    (w : mc.wp (fun c => ∀ q S' H', Sub S S' → StOk F.X.K F.en S' H' σ ρ ((q, kk c) :: Γ.set j (p, .ins cl (putS f (.at q) fs))) → WSs F.X rest D σ H') (Xw F.toFr ρ Γ σ)) : WSs F.X (.Assign [.Attribute a f pos'] v pos :: rest) D σ H := by
  refine WSs.of (pss_cons (ps_fld pe_We pe_We hs) pss_W) (he S H σ _ s (Res.wp_mono w (fun c z q S1 H1 nq u1 s1 => ho q c S1 H1 σ _ s1 ?_) fun _ z => z))
  have hc' : ((q, kk c) :: Γ)[j + 1]? = some (p, .ins cl fs) := hc
  obtain ⟨_, _, ob, h3, dx, vs, rfl, rs⟩ := s1.hg.ga.ce p _ (mem_at hc')
  refine ⟨p, _, dx, vs, rfl, h3, cls, na, by rw [fls_len rs]; exact hl, ?_⟩
  exact z q S1 _ u1 ⟨s1.hg.write hc' ⟨dx, _, rfl, fls_put (s := .at q) (v := .ref q) rfl rs⟩, s1.sl⟩
theorem fin_J {τ' : Type} {o' : τ' → Al → List Sl × Ga} {m : Res (Fl τ' β κ)} {mr : τ' → Res (Fl τ β κ)} {S : Hp} {D : Ends} (hr : ∀ t α, AOk F.en.O α → SJ F o ob oc rest ks (o' t α).1 (o' t α).2 (mr t)) (w : (andThen m mr).wp (FlW F o ob oc S D) (Xs F)) :
    m.wp (FlW F o' ob oc S { D with nx := WSs F.X rest { D with nx := Wks F.X ks D } }) (Xs F) := by
  cases m with
  | ok x =>
    cases x with
    | nx t => exact fun α hα S' H' σ' u' s' => (hr t α hα).run s' u' w
    | rt d c => exact w
    | bk b => exact w
    | ct b => exact w
  | exc k => exact w
  | stuck => exact w
def uj {τ τ' β κ γ : Type} (ma mb : γ → Res (Fl τ' β κ)) (mr : τ' → Res (Fl τ β κ)) (r : Bool × γ) : Res (Fl τ β κ) := andThen (if r.1 = true then ma r.2 else mb r.2) mr
theorem s_ifJM {τ' : Type} {o' : τ' → Al → List Sl × Ga} {γ : Type} {g : γ → Al → Ga} {c : γ} {α : Al} {cd : Expr} {a b : List Stmt} {mc : Res (Bool × γ)} {ma mb : γ → Res (Fl τ' β κ)} {mr : τ' → Res (Fl τ β κ)} (ht : TM F.toFr ρ g c α cd mc) (h1 : ∀ c α, SJ F o' ob oc a [] ρ (g c α) (ma c)) (h2 : ∀ c α, SJ F o' ob oc b [] ρ (g c α) (mb c))
    (hr : ∀ t α, AOk F.en.O α → SJ F o ob oc rest ks (o' t α).1 (o' t α).2 (mr t)) (ha : F.al ρ (g c α)) :
    SJ F o ob oc (.If cd a b pos :: rest) ks ρ (g c α) (mc.bind (uj ma mb mr)) := fun S H σ D s w =>
  WSs.of (pss_cons (ps_if pt_Wt pss_W pss_W) pss_W) (ht S H σ _ s (Res.wp_mono (Res.wp_bind w) (fun r w1 α1 S1 H1 u1 s1 => by
    obtain ⟨k, c'⟩ := r
    cases k with
    | true => exact (h1 c' α1).body (S := S1) _ s1 (Sub.refl S1) (fin_J hr (Res.wp_mono w1 (fun _ q => q.up u1) fun _ q => q))
    | false => exact (h2 c' α1).body (S := S1) _ s1 (Sub.refl S1) (fin_J hr (Res.wp_mono w1 (fun _ q => q.up u1) fun _ q => q))) fun _ z => xw_of ha z))
end
def v0 {α : Type} (m : Res α) : List D → Res α
  | [] => m
  | _ => .stuck
def v1 {α : Type} (m : D → Res α) : List D → Res α
  | [a] => m a
  | _ => .stuck
def v2 {α : Type} (m : D → D → Res α) : List D → Res α
  | [a, b] => m a b
  | _ => .stuck
def v3 {α : Type} (m : D → D → D → Res α) : List D → Res α
  | [a, b, c] => m a b c
  | _ => .stuck
def v4 {α : Type} (m : D → D → D → D → Res α) : List D → Res α
  | [a, b, c, d] => m a b c d
  | _ => .stuck
def v5 {α : Type} (m : D → D → D → D → D → Res α) : List D → Res α
  | [a, b, c, d, e] => m a b c d e
  | _ => .stuck
theorem v0_len {α : Type} {m : Res α} : ∀ ds : List D, ds.length ≠ 0 → v0 m ds = .stuck
  | [], h => absurd rfl h
  | _ :: _, _ => rfl
theorem v1_len {α : Type} {m : D → Res α} : ∀ ds : List D, ds.length ≠ 1 → v1 m ds = .stuck
  | [], _ => rfl
  | [_], h => absurd rfl h
  | _ :: _ :: _, _ => rfl
theorem v2_len {α : Type} {m : D → D → Res α} : ∀ ds : List D, ds.length ≠ 2 → v2 m ds = .stuck
  | [], _ => rfl
  | [_], _ => rfl
  | [_, _], h => absurd rfl h
  | _ :: _ :: _ :: _, _ => rfl
theorem v3_len {α : Type} {m : D → D → D → Res α} : ∀ ds : List D, ds.length ≠ 3 → v3 m ds = .stuck
  | [], _ => rfl
  | [_], _ => rfl
  | [_, _], _ => rfl
  | [_, _, _], h => absurd rfl h
  | _ :: _ :: _ :: _ :: _, _ => rfl
theorem v4_len {α : Type} {m : D → D → D → D → Res α} : ∀ ds : List D, ds.length ≠ 4 → v4 m ds = .stuck
  | [], _ => rfl
  | [_], _ => rfl
  | [_, _], _ => rfl
  | [_, _, _], _ => rfl
  | [_, _, _, _], h => absurd rfl h
  | _ :: _ :: _ :: _ :: _ :: _, _ => rfl
theorem v5_len {α : Type} {m : D → D → D → D → D → Res α} : ∀ ds : List D, ds.length ≠ 5 → v5 m ds = .stuck
  | [], _ => rfl
  | [_], _ => rfl
  | [_, _], _ => rfl
  | [_, _, _], _ => rfl
  | [_, _, _, _], _ => rfl
  | [_, _, _, _, _], h => absurd rfl h
  | _ :: _ :: _ :: _ :: _ :: _ :: _, _ => rfl
section
variable {F : Fr} {ρ : List Sl} {Γ : Ga}
theorem star_con {v : Const} {k : Nat} {pos : Pos} {es : List Expr} {env : Env} : starEach (.Constant v k pos :: es) env = (false, eval (.Constant v k pos) env) :: starEach es env := rfl
theorem eak_nil : Ea F ρ Γ [] (.ok []) := ea_nil
theorem eak_int {n : Int} {k : Nat} {pos : Pos} {es : List Expr} {l : List D} (h : Ea F ρ Γ es (.ok l)) : Ea F ρ Γ (.Constant (.int n) k pos :: es) (.ok (.int n :: l)) := ea_cons e_int h star_con
theorem eak_str {x : Str} {k : Nat} {pos : Pos} {es : List Expr} {l : List D} (h : Ea F ρ Γ es (.ok l)) : Ea F ρ Γ (.Constant (.str x) k pos :: es) (.ok (.str x :: l)) := ea_cons e_str h star_con
theorem eak_bl {x : Bool} {k : Nat} {pos : Pos} {es : List Expr} {l : List D} (h : Ea F ρ Γ es (.ok l)) : Ea F ρ Γ (.Constant (.bool x) k pos :: es) (.ok (.bl x :: l)) := ea_cons e_bl h star_con
theorem eak_non {k : Nat} {pos : Pos} {es : List Expr} {l : List D} (h : Ea F ρ Γ es (.ok l)) : Ea F ρ Γ (.Constant .none k pos :: es) (.ok (.non :: l)) := ea_cons e_non h star_con
end
end RL

/-! RL28: a chain of comparisons as a test. -/
namespace RL
open PySem L2
section
variable {F : Fr} {ρ : List Sl} {Γ : Ga} {a b c : Expr} {pos : Pos} {ma mb mc : Res D} {f g : D → D → Res D}
theorem chain_t (ha : Er F ρ Γ a ma) (hb : Er F ρ Γ b mb) (hc : Er F ρ Γ c mc) {S H σ Q} (s : StOk F.X.K F.en S H σ ρ Γ)
    (w : (ma.bind fun x => mb.bind fun y => ((f x y).bind asB).bind fun k => if k = true then mc.bind fun z => g y z else .ok (.bl false)).wp (fun d => ∀ v S' H', Sub S S' → StOk F.X.K F.en S' H' σ ρ Γ → rep F.X.K S' d v → Q v H') (Xw F ρ Γ σ)) :
    tChain (rD F.X.K f) (rD F.X.K g) (We F.X a) (We F.X b) (We F.X c) σ H Q :=
  (ha.go s w fun d x S1 H1 u1 s1 r1 w1 => hb.go s1 w1 fun e y S2 H2 u2 s2 r2 w2 =>
    ⟨F.en, S2, Γ, Xw F ρ Γ σ, d, e, s2.hg, r1 S2 H2 u2 s2.hg, r2 S2 H2 (Sub.refl S2) s2.hg, Res.wp_mono (wp_asB (Res.wp_bind w2)) (fun r ⟨k, ek, w3⟩ z S3 H3 u3 g3 rz => by
      subst ek
      refine ⟨k, rep_bl_eq rz, ?_⟩
      have s3 := s2.mk' u3 g3
      cases k with
      | true => exact hc.go s3 w3 fun e' y' S4 H4 u4 s4 r4 w4 => ⟨F.en, S4, Γ, Xw F ρ Γ σ, e, e', s4.hg, r2 S4 H4 (u3.trans u4) s4.hg, r4 S4 H4 (Sub.refl S4) s4.hg,
          Res.wp_mono w4 (fun r k z S' H' u g rz => k z S' H' (u1.trans (u2.trans (u3.trans (u4.trans u)))) (s4.mk' u g) rz) fun _ z => z⟩
      | false => exact w3 _ S3 H3 (u1.trans (u2.trans u3)) s3 rep_bl) fun _ z => z⟩)
theorem t_chain {op op' : CmpOp} (ho : OpR F.X (compareOp op) (rD F.X.K f)) (ho' : OpR F.X (compareOp op') (rD F.X.K g)) (ha : Er F ρ Γ a ma) (hb : Er F ρ Γ b mb) (hc : Er F ρ Γ c mc)
    (hm : lastMarks [op, op'] [b, c] = false := by with_unfolding_all rfl) :
    T F ρ Γ (.Compare a [op, op'] [b, c] pos) ((ma.bind fun x => mb.bind fun y => ((f x y).bind asB).bind fun k => if k = true then mc.bind fun z => g y z else .ok (.bl false)).bind asB) := fun S H σ Q s w =>
  Wt.of (pt_chain ho ho' pe_We pe_We pe_We hm) (chain_t ha hb hc s (Res.wp_mono (wp_asB w) (fun d ⟨k, e, h⟩ v S' H' u s' r => by
    subst e
    exact ⟨k, rep_bl_eq r, h S' H' u s'⟩) fun _ z => z))
end
end RL

/-! RL29: defs whose told list is new, the asker's own. -/
namespace RL
open PySem L2
/-- what is shared, but p -/
def del (S : Hp) (p : Addr) : Hp := fun a => if a = p then none else S a
theorem del_same {S : Hp} {p : Addr} : del S p p = none := if_pos rfl
theorem del_ne {S : Hp} {a p : Addr} (h : a ≠ p) : del S p a = S a := if_neg h
theorem del_upd {S : Hp} {p : Addr} {o : HO} (h : S p = none) : del (upd S p o) p = S := by
  funext a
  by_cases e : a = p
  · subst e; rw [del_same, h]
  · rw [del_ne e, upd_ne e]
/-- the cell of a told list or dict -/
def ceF : D → Option Ce
  | .lst l => some (.lst l)
  | .dic l => some (.dic l)
  | _ => none
/-- the promise: a told list is new since the entry -/
def FrR (K : PySem.W.Frag) (en : En) : D → V → Hp → Hp → Ga → Prop := fun d v S' H' Γ =>
  ∀ c, ceF d = some c → ∃ p, v = .ref p ∧ en.H0 p = none ∧ Hg K en (del S' p) H' ((p, c) :: Γ)
section
variable (K : PySem.W.Frag) {γi γo : Type}
def spF (G : List D → Res D) : Sp := fun vs H Q Er => ∃ S ds, Sub S H ∧ reps K S ds vs ∧
  (G ds).wp (fun d => ∀ v S' H', Ext S H S' H' → rep K S' d v → FrR K ⟨H, S, []⟩ d v S' H' [] → Q v H') (fun k => ∀ S' H', Ext S H S' H' → Er (.ref (He.ga K k)) none H')
def spMF (sh : (Nat → Addr) → List (Option Addr)) (gi : (Nat → Addr) → γi → Ga) (go : (Nat → Addr) → Al → γi → γo → Ga) (G : List D → γi → Res (D × γo)) : Sp := fun vs H Q Er => ∃ S ps ds c, slsOk K S (fill (sh ps) ds) (vs.map some) ∧
  Hg K ⟨H, S, (gi ps c).map (·.1)⟩ S H (gi ps c) ∧
  (G ds c).wp (fun r => ∀ α v S' H', Sub S S' → Hg K ⟨H, S, (gi ps c).map (·.1)⟩ S' H' (go ps α c r.2) → rep K S' r.1 v → FrR K ⟨H, S, (gi ps c).map (·.1)⟩ r.1 v S' H' (go ps α c r.2) → Q v H')
    (fun k => ∀ S' H', Sub S S' → Hg K ⟨H, S, (gi ps c).map (·.1)⟩ S' H' (gi ps c) → Er (.ref (He.ga K k)) none H')
end
section
variable (P : Program) (w : World) (K : PySem.W.Frag) (mg : Str → Option Value) (base : Heap) {γi γo : Type}
def KnF (x : Str) (k : Nat) (G : List D → Res D) : Prop := ∃ f fd ps, FnOk P w K mg base (L2.CX P w) k f fd ps (spF K G) ∧ mg x = some (.ref f) ∧ PySem.W.keepIn K (.ref f) = true ∧ Binds K fd ps []
def Kn3F (x : Str) (k : Nat) (sh : (Nat → Addr) → List (Option Addr)) (gi : (Nat → Addr) → γi → Ga) (go : (Nat → Addr) → Al → γi → γo → Ga) (G : List D → γi → Res (D × γo)) : Prop :=
  ∃ f fd ps, FnOk P w K mg base (L2.CX P w) k f fd ps (spMF K sh gi go G) ∧ mg x = some (.ref f) ∧ PySem.W.keepIn K (.ref f) = true ∧ Binds K fd ps []
/-- the frames of such defs -/
abbrev frF (N : List Str) (qual : Str) (scope : Scope) (f : Addr) (cdv : Value) (A : Around) (outer : List Env) (s : Shared) (H : Hp) (Er : XK) (S0 : Hp) : FrS :=
  { X := cxOf (L2.CX P w) P w K mg base N qual scope f cdv A outer s H Er, W := fun cls d _ H => Er cls d H, en := ⟨H, S0, []⟩, tk := takes_of rfl rfl rfl rfl, al := fun _ _ => True, rt := FrR K ⟨H, S0, []⟩ }
abbrev frMF (b : Bool) (N : List Str) (qual : Str) (scope : Scope) (f : Addr) (cdv : Value) (A : Around) (outer : List Env) (s : Shared) (H : Hp) (Er : XK) (S0 : Hp) (Γ0 : Ga) : FrS :=
  { X := cxOf (L2.CX P w) P w K mg base N qual scope f cdv A outer s H Er, W := fun cls d _ H => Er cls d H, en := ⟨H, S0, Γ0.map (·.1)⟩, tk := takes_of rfl rfl rfl rfl, al := fun _ Γ => alB b Γ0 Γ, rt := FrR K ⟨H, S0, Γ0.map (·.1)⟩ }
end
abbrev Fr.KnF (F : Fr) := RL.KnF F.X.prog F.X.w F.X.K F.X.mg F.X.base
abbrev Fr.Kn3F (F : Fr) {γi γo : Type} := @RL.Kn3F F.X.prog F.X.w F.X.K F.X.mg F.X.base γi γo
theorem frR_no {K : PySem.W.Frag} {en : En} {d : D} {v : V} {S H : Hp} {Γ : Ga} (h : ceF d = none) : FrR K en d v S H Γ := fun l e => by rw [h] at e; cases e
theorem Hg.add {K : PySem.W.Frag} {en : En} {S H : Hp} {Γ : Ga} (g : Hg K en S H Γ) {p : Addr} {c : Ce} {o : HO} (hp : S p = none) (h0 : en.H0 p = none) (hH : H p = some o) (hc : ceOk K S c o) (hn : p ∉ Γ.map (·.1)) : Hg K en S H ((p, c) :: Γ) :=
  ⟨g.hp, ⟨fun q c' hm => by
    rcases List.mem_cons.mp hm with e | hm
    · cases e
      exact ⟨hp, .inr h0, o, hH, hc⟩
    · exact g.ga.ce q c' hm, by rw [List.map_cons, List.nodup_cons]; exact ⟨hn, g.ga.nd⟩⟩⟩
section
variable {P : Program} {w : World} {K : PySem.W.Frag} {mg : Str → Option Value} {base : Heap} {x qual : Str} {params : Arguments} {body : List Stmt} {scope : Scope} {f : Addr} {fd : FuncData} {N ps : List Str} {k : Nat} {γi γo : Type}
theorem fn_mkF (Fd : FunD K x qual params body scope [] [] f fd) (Sc : FnScope N ps scope) (m : List D → Me) (hl : ∀ ds, ds.length ≠ ps.length → m ds = .stuck)
    (hb : ∀ cdv A outer s H Er S0 ds, ds.length = ps.length → Room k (A.deeper (PyProof.Rows.envOfC qual scope s.heap.objs.size f cdv)) →
      SJ (τ := Unit) (β := Empty) (κ := Unit) (frF P w K mg base N qual scope f cdv A outer s H Er S0) (o0 N.length) ob0 oc0 body [] (ds.map Sl.is ++ List.replicate (N.length - ds.length) Sl.un) [] (m ds)) :
    FnOk P w K mg base (L2.CX P w) (k + 1) f fd ps (spF K fun ds => told (m ds)) := by
  have len : ∀ vs H Q E, spF K (fun ds => told (m ds)) vs H Q E → vs.length = ps.length := fun vs H Q E h => by
    obtain ⟨S, ds, u, r, wp⟩ := h
    by_cases e : ds.length = ps.length
    · rw [reps_len r, e]
    · replace wp : (told (m ds)).wp _ _ := wp
      rw [hl ds e] at wp
      exact wp.elim
  refine FunD.ok Fd Sc len fun cdv A outer s H vs Q Er hr h => ?_
  obtain ⟨S, ds, u, r, wp⟩ := id h
  have e : ds.length = ps.length := by rw [← reps_len r]; exact len _ _ _ _ h
  refine ⟨_, pss_W, ?_⟩
  have st : StOk K ⟨H, S, []⟩ S H (L2.start N vs) (ds.map Sl.is ++ List.replicate (N.length - ds.length) Sl.un) [] := by
    refine ⟨⟨⟨u, fun a o _ q => q, fun a o q => ⟨o, q⟩, fun p hm => (nomatch hm), Sub.refl S, fun a o q => .inl ⟨o, q⟩⟩, ⟨fun p c hm => (nomatch hm), List.nodup_nil⟩⟩, ?_⟩
    unfold L2.start
    rw [reps_len r]
    exact slsOk_args _ r
  have ext : ∀ S' H', Sub S S' → Hg K ⟨H, S, []⟩ S' H' [] → Ext S H S' H' := fun S' H' u' g =>
    ⟨u', g.hp.sub, fun a o q => g.hp.keep a o (fun z => nomatch z) q, g.hp.fresh⟩
  refine (hb cdv A outer s H Er S ds e hr).body (S := S) _ st (Sub.refl S) ?_
  replace wp : (told (m ds)).wp _ _ := wp
  cases q : m ds with
  | ok fl =>
    rw [q] at wp
    cases fl with
    | nx t =>
      intro α _ S' H' σ' u' s'
      exact wp .non S' H' (ext S' H' u' ⟨s'.hg.hp, ⟨fun p c hm => (nomatch hm), List.nodup_nil⟩⟩) rep_non (frR_no rfl)
    | rt d c =>
      intro α v S' H' u' g r' z
      exact wp v S' H' (ext S' H' u' g) r' z
    | bk e => exact nomatch e
    | ct e => exact nomatch e
  | exc c =>
    rw [q] at wp
    intro ρ' Γ' S' H' σ' _ s'
    have g := s'.hg
    exact wp S' H' ⟨g.hp.s0, g.hp.sub, fun a o q => g.hp.keep a o (fun z => nomatch z) q, g.hp.fresh⟩
  | stuck => rw [q] at wp; exact wp
theorem fn_mkMF (b : Bool) {sh : (Nat → Addr) → List (Option Addr)} {gi : (Nat → Addr) → γi → Ga} {go : (Nat → Addr) → Al → γi → γo → Ga} (Fd : FunD K x qual params body scope [] [] f fd) (Sc : FnScope N ps scope) (hsh : ∀ q, (sh q).length = ps.length) (nv : Nat) (m : List D → γi → Res (Fl γo Empty γo)) (hl : ∀ ds c, ds.length ≠ nv → m ds c = .stuck)
    (hb : ∀ cdv A outer s H Er S0 q ds c, ds.length = nv → Room k (A.deeper (PyProof.Rows.envOfC qual scope s.heap.objs.size f cdv)) →
      SJ (τ := γo) (β := Empty) (κ := γo) (frMF P w K mg base b N qual scope f cdv A outer s H Er S0 (gi q c)) (fun c' α => (List.replicate N.length .un, go q α c c')) ob0 (fun c' α => go q α c c') body [] (fill (sh q) ds ++ List.replicate (N.length - ps.length) Sl.un) (gi q c) (m ds c)) :
    FnOk P w K mg base (L2.CX P w) (k + 1) f fd ps (spMF K sh gi go fun ds c => toldB b (m ds c)) := by
  have len : ∀ vs H Q E, spMF K sh gi go (fun ds c => toldB b (m ds c)) vs H Q E → vs.length = ps.length := fun vs H Q E h => by
    obtain ⟨S, q, ds, c, r, _⟩ := h
    have := r.len
    rw [List.length_map, fill_len, hsh] at this
    exact this
  refine FunD.ok Fd Sc len fun cdv A outer s H vs Q Er hr h => ?_
  obtain ⟨S, q, ds, c, r, g0, wp⟩ := id h
  have lv := len _ _ _ _ h
  have e : ds.length = nv := by
    refine Decidable.byContradiction fun ne => ?_
    replace wp : (toldB b (m ds c)).wp _ _ := wp
    rw [hl ds c ne] at wp
    cases b <;> exact wp.elim
  refine ⟨_, pss_W, ?_⟩
  have st : StOk K ⟨H, S, (gi q c).map (·.1)⟩ S H (L2.start N vs) (fill (sh q) ds ++ List.replicate (N.length - ps.length) Sl.un) (gi q c) := by
    refine ⟨g0, ?_⟩
    unfold L2.start
    rw [lv]
    exact slsOk_app _ r
  refine (hb cdv A outer s H Er S q ds c e hr).body (S := S) _ st (Sub.refl S) ?_
  replace wp : (toldB b (m ds c)).wp _ _ := wp
  cases q2 : m ds c with
  | ok fl =>
    rw [q2] at wp
    cases fl with
    | nx t =>
      intro α _ S' H' σ' u' s'
      cases b <;> exact wp α .non S' H' u' s'.hg rep_non (frR_no rfl)
    | rt d c' =>
      intro α v S' H' u' g r' z
      cases b <;> exact wp α v S' H' u' g r' z
    | bk e => exact nomatch e
    | ct e => exact nomatch e
  | exc c' =>
    rw [q2] at wp
    cases b with
    | false => exact wp.elim
    | true =>
      intro ρ' Γ' S' H' σ' ha s'
      have ha : Γ' = gi q c := ha
      subst ha
      exact wp S' H' s'.hg.hp.s0 s'.hg
  | stuck =>
    rw [q2] at wp
    cases b <;> exact wp
end
theorem KnF.kn {P : Program} {w : World} {K : PySem.W.Frag} {mg : Str → Option Value} {base : Heap} {x : Str} {k : Nat} {G : List D → Res D} (h : KnF P w K mg base x k G) : Kn P w K mg base x k G := by
  obtain ⟨f, fd, ps, Fn, r⟩ := h
  refine ⟨f, fd, ps, Fn.imp (fun vs H Q E ⟨S, ds, u, rs, wp⟩ => ⟨S, ds, u, rs, Res.wp_mono wp (fun d z v S' H' e rv _ => z v S' H' e rv) fun _ z => z⟩), r⟩
theorem Kn3F.kn {P : Program} {w : World} {K : PySem.W.Frag} {mg : Str → Option Value} {base : Heap} {γi γo : Type} {x : Str} {k : Nat} {sh : (Nat → Addr) → List (Option Addr)} {gi : (Nat → Addr) → γi → Ga} {go : (Nat → Addr) → Al → γi → γo → Ga} {G : List D → γi → Res (D × γo)} (h : Kn3F P w K mg base x k sh gi go G) : Kn3 P w K mg base x k sh gi go G := by
  obtain ⟨f, fd, ps, Fn, r⟩ := h
  refine ⟨f, fd, ps, Fn.imp (fun vs H Q E ⟨S, q, ds, c, rs, g, wp⟩ => ⟨S, q, ds, c, rs, g, Res.wp_mono wp (fun d z α v S' H' u g' rv _ => z α v S' H' u g' rv) fun _ z => z⟩), r⟩
/-! ### statements -/
def asLst : D → Res (List D)
  | .lst l => .ok l
  | _ => .stuck
def orL {α : Type} (m1 : List D → Res α) (m2 : D → Res α) : D → Res α
  | .lst l => m1 l
  | d => m2 d
def ucL {α γ : Type} (mr : List D → γ → Res α) (r : D × γ) : Res α := match r.1 with
  | .lst l => mr l r.2
  | _ => .stuck
section
variable {τ τ' β κ : Type} {F : FrS} {o : τ → Al → List Sl × Ga} {o' : τ' → Al → List Sl × Ga} {ob : β → Al → List Sl × Ga} {oc : κ → Al → Ga} {ρ : List Sl} {Γ : Ga} {rest : List Stmt} {ks : List (List Stmt)} {pos p : Pos} {γ γi γo : Type} {i k : Nat} {a e : Expr} {es : List Expr} {x fx : Str} {me : Res (List D)} {ms : Res (List D)} {G : List D → Res D}
/-- return of a new list -/
theorem s_retF {c : κ} (α : Al) (he : EF F.toFr ρ Γ Ce.lst e me) (f : Fewer Γ (oc c α)) (ha : F.al ρ Γ) (hq : ∀ d v S H G, FrR F.X.K F.en d v S H G → F.rt d v S H G := by exact fun _ _ _ _ _ z => z) :
    SJ F o ob oc (.Return (some e) pos :: rest) ks ρ Γ (me.bind fun l => .ok (.rt (.lst l) c)) := fun S H σ D s w =>
  WSs.of (pss_cons (ps_ret pe_We) (pss_never (sts := rest))) (he S H σ _ s (Res.wp_mono (Res.wp_bind w) (fun l w1 q S1 H1 n u1 s1 => by
    obtain ⟨S2, u2, g2, r2⟩ := s1.hg.freeze (i := 0) rfl n rfl
    have hc := s1.hg.ga.ce q _ List.mem_cons_self
    obtain ⟨h1, h2, ob, h3, vs, rfl, rs⟩ := hc
    have h0 : F.en.H0 q = none := h2.resolve_left n
    have hpo : HpOk F.en (upd S1 q (.lst vs)) H1 := by
      have g := s1.hg
      refine ⟨fun a o z => ?_, g.hp.keep, g.hp.there, g.hp.oh, g.hp.s0.trans (Sub.ext S1 h1), fun a o z => ?_⟩
      · by_cases y : a = q
        · subst y; rw [upd_same] at z; cases z; exact h3
        · rw [upd_ne y] at z; exact g.hp.sub a o z
      · by_cases y : a = q
        · subst y; exact .inr h0
        · rw [upd_ne y] at z; exact g.hp.fresh a o z
    have hgf : Hg F.X.K F.en (upd S1 q (.lst vs)) H1 Γ := by
      refine ⟨hpo, ⟨fun b c hm => ?_, ?_⟩⟩
      · obtain ⟨k1, k2, v, k3, k4⟩ := s1.hg.ga.ce b c (List.mem_cons_of_mem _ hm)
        have nd := s1.hg.ga.nd
        rw [List.map_cons, List.nodup_cons] at nd
        have ne : b ≠ q := fun z => nd.1 (List.mem_map.mpr ⟨(b, c), hm, z⟩)
        exact ⟨by rw [upd_ne ne]; exact k1, k2, v, k3, k4.mono (Sub.ext S1 h1)⟩
      · have nd := s1.hg.ga.nd
        rw [List.map_cons, List.nodup_cons] at nd
        exact nd.2
    refine w1 α (.ref q) (upd S1 q (.lst vs)) H1 (u1.trans (Sub.ext S1 h1)) ⟨hgf.hp, hgf.ga.fewer f⟩ (rep_lst_new h1 rs) (hq _ _ _ _ _ fun l' el => ?_)
    cases Option.some.inj el
    refine ⟨q, rfl, h0, ?_⟩
    rw [del_upd h1]
    exact ⟨s1.hg.hp, s1.hg.ga.fewer (List.Sublist.cons₂ _ f)⟩) fun _ z => xw_of ha z))
theorem s_retO {c : κ} {pn : Pos} {kn : Nat} (α : Al) (f : Fewer Γ (oc c α)) (ha : F.al ρ Γ) (hq : ∀ v S H G, F.rt .non v S H G := by exact fun _ _ _ _ => frR_no rfl) :
    SJ F o ob oc (.Return (some (.Constant .none kn pn)) pos :: rest) ks ρ Γ (.ok (.rt .non c)) := fun S H σ D s w =>
  WSs.of (pss_cons (ps_ret (pe_We (X := F.X))) (pss_never (sts := rest))) (e_non (F := F.toFr) (ρ := ρ) (Γ := Γ) S H σ _ s (fun v S1 H1 u1 s1 r1 => w α v S1 H1 u1 ⟨s1.hg.hp, s1.hg.ga.fewer f⟩ r1 (hq _ _ _ _)))
/-- the told list taken over -/
theorem own_of {S1 H1 σ} {d : D} {v : V} {S' H' : Hp} (s1 : StOk F.X.K F.en S1 H1 σ ρ Γ) (e : Ext S1 H1 S' H') (fr : FrR F.X.K ⟨H1, S1, []⟩ d v S' H' []) {c : Ce} (el : ceF d = some c) :
    ∃ q S2, v = .ref q ∧ q ∉ F.en.O ∧ Sub S1 S2 ∧ StOk F.X.K F.en S2 H' σ ρ ((q, c) :: Γ) := by
  obtain ⟨q, rfl, h0, g⟩ := fr c el
  have h0 : H1 q = none := h0
  have e2 : Ext S1 H1 (del S' q) H' := ⟨g.hp.s0, g.hp.sub, e.same, g.hp.fresh⟩
  have g2 := s1.hg.ext e2
  obtain ⟨_, _, ob, h3, h4⟩ := g.ga.ce q _ List.mem_cons_self
  refine ⟨q, del S' q, rfl, s1.hg.no h0, g.hp.s0, g2.add del_same (s1.hg.h0 h0) h3 h4 (fun hm => ?_), s1.sl.mono g.hp.s0⟩
  obtain ⟨⟨b, c⟩, hb, eq⟩ := List.mem_map.mp hm
  have eq : b = q := eq
  subst eq
  obtain ⟨_, _, u, h5, _⟩ := s1.hg.ga.ce b c hb
  rw [h0] at h5; cases h5
theorem ef_callN (T : F.toFr.KnF fx k G) (hr : Room k F.X.A) (h : Ea F.toFr ρ Γ (a :: es) ms) (hg : Gl F.X fx := by rfl) (hdb : (fx == ("__debug__" : Str)) = false := by decide)
    (he : starEach (a :: es) F.X.env = (false, eval a F.X.env) :: starEach es F.X.env := by rfl) (hpl : (backTo pos (starEach es F.X.env)).any (·.1) = false := by rfl) :
    EF F.toFr ρ Γ Ce.lst (.Call (.Name fx p) (a :: es) [] pos) (ms.bind fun ds => (G ds).bind asLst) := fun S H σ Q s w => by
  obtain ⟨f, fd, ps, Fn, hm, hk, hb⟩ := T
  refine We.of (pe_callS (E := WE F.W) Fn hr hg hm hk hb (fun σ => passAt F.tk σ) pa_Wa hdb he hpl) (h.go s w fun ds vs S1 H1 u1 s1 r1 w1 => ?_)
  refine ⟨S1, ds, s1.hg.hp.sub, r1, Res.wp_mono (Res.wp_bind w1) (fun d z v S' H' e rv fr => ?_) fun c z S' H' e => z S' H' (s1.mk' e.up (s1.hg.ext e))⟩
  unfold asLst at z
  split at z
  · obtain ⟨q, S2, rfl, n, u2, s2⟩ := own_of s1 e fr rfl
    exact z q S2 H' n (u1.trans u2) s2
  · exact z.elim
/-- x = f(..): a new list, or something else -/
theorem s_setO {m1 : List D → Res (Fl τ β κ)} {m2 : D → Res (Fl τ β κ)} {pos' cpos : Pos} (T : F.toFr.KnF fx k G) (hr : Room k F.X.A) (h : Ea F.toFr ρ Γ (a :: es) ms)
    (h1 : ∀ l q, q ∉ F.en.O → SJ F o ob oc rest ks (ρ.set i (.at q)) ((q, .lst l) :: Γ) (m1 l)) (h2 : ∀ d, SJ F o ob oc rest ks (ρ.set i (.is d)) Γ (m2 d)) (hN : F.X.N.Nodup) (hi : F.X.N[i]? = some x) (hx : Loc F.X.env.scope x) (ha : F.al ρ Γ)
    (hs : swapsWith (.Call (.Name fx p) (a :: es) [] cpos) (some (.Name x pos')) pos.line F.X.env = pure false := by rfl) (hf : F.X.fn x = true ∨ F.X.env.scope.names.lookup x = some .local := by first | exact .inl rfl | exact .inr rfl)
    (hg : Gl F.X fx := by rfl) (hdb : (fx == ("__debug__" : Str)) = false := by decide)
    (he : starEach (a :: es) F.X.env = (false, eval a F.X.env) :: starEach es F.X.env := by rfl) (hpl : (backTo cpos (starEach es F.X.env)).any (·.1) = false := by rfl) :
    SJ F o ob oc (.Assign [.Name x pos'] (.Call (.Name fx p) (a :: es) [] cpos) pos :: rest) ks ρ Γ (ms.bind fun ds => (G ds).bind (orL m1 m2)) := fun S H σ D s w => by
  obtain ⟨f, fd, ps, Fn, hm, hk, hb⟩ := T
  refine WSs.of (pss_cons (ps_set hN hi hx (pe_callS (E := WE F.W) Fn hr hg hm hk hb (fun σ => passAt F.tk σ) pa_Wa hdb he hpl) hs hf) pss_W) ?_
  refine h S H σ _ s (Res.wp_mono (Res.wp_bind w) (fun ds w1 vs S1 H1 u1 s1 r1 => ?_) fun _ z => xw_of ha z)
  refine ⟨S1, ds, s1.hg.hp.sub, r1, Res.wp_mono (Res.wp_bind w1) (fun d z v S' H' e rv fr => ?_) fun c z S' H' e => xw_of ha z S' H' (s1.mk' e.up (s1.hg.ext e))⟩
  unfold orL at z
  split at z
  · obtain ⟨q, S2, rfl, n, u2, s2⟩ := own_of s1 e fr rfl
    exact (h1 _ q n).run ⟨s2.hg, s2.sl.set i rfl⟩ (u1.trans u2) z
  · have s2 := s1.mk' e.up (s1.hg.ext e)
    exact (h2 _).run ⟨s2.hg, s2.sl.set i ⟨v, rfl, rv⟩⟩ (u1.trans e.up) z
/-- x = f(.. cells ..), a new list -/
theorem s_setMF {shf : (Nat → Addr) → List (Option Addr)} {gi : (Nat → Addr) → γi → Ga} {go : (Nat → Addr) → Al → γi → γo → Ga} {G : List D → γi → Res (D × γo)} {g : γ → Al → Ga} {c : γ} {α : Al} {ci : γi} {ps : Nat → Addr} {js : List Nat} {up : γo → γ} {mr : List D → γ → Res (Fl τ β κ)} {pos' cpos : Pos}
    (T : F.toFr.Kn3F fx k shf gi go G) (hr : Room k F.X.A) (h : EaS F.toFr ρ (g c α) (shf ps) (a :: es) ms) (hp : Pick (g c α) js (gi ps ci)) (hj : js.Nodup) (hal : ∀ α o, (go ps α ci o).map (·.1) = (gi ps ci).map (·.1)) (hu : ∀ α1 o, g (up o) α1 = setG (g c α) js (go ps α1 ci o))
    (h1 : ∀ l c α q, q ∉ F.en.O → SJ F o ob oc rest ks (ρ.set i (.at q)) ((q, .lst l) :: g c α) (mr l c)) (hN : F.X.N.Nodup) (hi : F.X.N[i]? = some x) (hx : Loc F.X.env.scope x) (ha : F.al ρ (g c α))
    (hs : swapsWith (.Call (.Name fx p) (a :: es) [] cpos) (some (.Name x pos')) pos.line F.X.env = pure false := by rfl) (hf : F.X.fn x = true ∨ F.X.env.scope.names.lookup x = some .local := by first | exact .inl rfl | exact .inr rfl)
    (hg : Gl F.X fx := by rfl) (hdb : (fx == ("__debug__" : Str)) = false := by decide)
    (he : starEach (a :: es) F.X.env = (false, eval a F.X.env) :: starEach es F.X.env := by rfl) (hpl : (backTo cpos (starEach es F.X.env)).any (·.1) = false := by rfl) :
    SJ F o ob oc (.Assign [.Name x pos'] (.Call (.Name fx p) (a :: es) [] cpos) pos :: rest) ks ρ (g c α) ((ms.bind fun ds => mapR (sndM up) (G ds ci)).bind (ucL mr)) := fun S H σ D s w => by
  obtain ⟨f, fd, pr, Fn, hm, hk, hb⟩ := T
  refine WSs.of (pss_cons (ps_set hN hi hx (pe_callS (E := WE F.W) Fn hr hg hm hk hb (fun σ => passAt F.tk σ) pa_Wa hdb he hpl) hs hf) pss_W) ?_
  refine h S H σ _ s (Res.wp_mono (Res.wp_bind (Res.wp_bind w)) (fun ds w1 us S1 H1 u1 s1 r1 => ?_) fun _ z => xw_of ha z)
  refine ⟨S1, ps, ds, ci, r1, s1.hg.part hp hj, Res.wp_mono (wp_mapR w1) (fun r z α1 v S' H' u g' rv fr => ?_) fun k z S' H' u g' => ?_⟩
  · unfold ucL sndM at z
    simp only at z
    split at z
    · rename_i l el
      obtain ⟨q, rfl, h0, gq⟩ := fr (.lst l) (by rw [el]; rfl)
      have h0 : H1 q = none := h0
      have gf : Hg F.X.K ⟨H1, S1, (gi ps ci).map (·.1)⟩ (del S' q) H' (go ps α1 ci r.2) := ⟨gq.hp, gq.ga.fewer (List.Sublist.cons _ (List.Sublist.refl _))⟩
      have g3 := s1.hg.callM hp hj gq.hp.s0 gf (hal _ _)
      rw [← hu] at g3
      obtain ⟨_, _, ob, h3, h4⟩ := gq.ga.ce q _ List.mem_cons_self
      have hnm : q ∉ (g (up r.2) α1).map (·.1) := fun hm => by
        rw [hu, setG_as (by rw [hal]; exact hp.a)] at hm
        obtain ⟨⟨b, c⟩, hb, eq⟩ := List.mem_map.mp hm
        have eq : b = q := eq
        subst eq
        obtain ⟨_, _, u, h5, _⟩ := s1.hg.ga.ce b c hb
        rw [h0] at h5; cases h5
      exact (h1 l (up r.2) α1 q (s1.hg.no h0)).run ⟨g3.add del_same (s1.hg.h0 h0) h3 h4 hnm, (s1.sl.mono gq.hp.s0).set i rfl⟩ (u1.trans gq.hp.s0) z
    · exact z.elim
  · have := s1.hg.callM hp hj u g' rfl
    rw [setG_self hp] at this
    exact xw_of ha z S' H' ⟨this, s1.sl.mono u⟩
end
end RL

/-! RL30: a cell lent to a def that tells a flat value. -/
namespace RL
open PySem L2
/-- arguments, the cell q among them -/
def EaL (F : Fr) (ρ : List Sl) (Γ : Ga) (q : Addr) (es : List Expr) (m : Res (List D)) : Prop := ∀ S H σ Q, StOk F.X.K F.en S H σ ρ Γ →
  m.wp (fun ds => ∀ us S' H', Sub S S' → StOk F.X.K F.en S' H' σ ρ Γ → (∀ S'' o, Sub S' S'' → H' q = some o → S'' q = some o → reps F.X.K S'' ds us) → Q us H') (Xw F ρ Γ σ) → Wa F.X es σ H Q
def flatD (d : D) : Res D := if d.flat = true then .ok d else .stuck
section
variable {F : Fr} {ρ : List Sl} {Γ : Ga} {a e : Expr} {pos p : Pos} {ma : Res D} {es : List Expr} {ms : Res (List D)} {x : Str} {k j : Nat} {q : Addr} {G : List D → Res D}
theorem eal_nil : EaL F ρ Γ q [] (.ok []) := fun S H σ Q s w => Wa.of pa_nil (w [] S H (Sub.refl S) s fun _ _ _ _ _ => reps_nil)
theorem eal_val (ha : E F ρ Γ a ma) (h : EaL F ρ Γ q es ms) (hs : starEach (a :: es) F.X.env = (false, eval a F.X.env) :: starEach es F.X.env := by rfl) :
    EaL F ρ Γ q (a :: es) (ma.bind fun x => ms.bind fun xs => .ok (x :: xs)) := fun S H σ Q s w =>
  Wa.of (pa_cons pe_We pa_Wa hs) (ha.go s w fun d v S1 H1 u1 s1 r1 w1 => h S1 H1 σ _ s1 (Res.wp_mono (Res.wp_bind w1) (fun ds z us S2 H2 u2 s2 r2 =>
    z (v :: us) S2 H2 (u1.trans u2) s2 fun S3 o u3 h3 h4 => reps_cons (rep_mono (u2.trans u3) _ _ r1) (r2 S3 o u3 h3 h4)) fun _ z S' H' s' => z S' H' s'))
theorem eal_lst {l : List D} (j : Nat) (ha : At F ρ Γ a q) (hc : Γ[j]? = some (q, .lst l)) (h : EaL F ρ Γ q es ms) (hs : starEach (a :: es) F.X.env = (false, eval a F.X.env) :: starEach es F.X.env := by rfl) :
    EaL F ρ Γ q (a :: es) (ms.bind fun xs => .ok (.lst l :: xs)) := fun S H σ Q s w =>
  Wa.of (pa_cons pe_We pa_Wa hs) (ha S H σ _ s (h S H σ _ s (Res.wp_mono (Res.wp_bind w) (fun ds z us S2 H2 u2 s2 r2 => z (.ref q :: us) S2 H2 u2 s2 fun S3 o u3 h3 h4 => by
    obtain ⟨_, _, o', h5, vs, rfl, rs⟩ := s2.hg.ga.ce q _ (mem_at hc)
    rw [h5] at h3
    cases h3
    refine reps_cons ?_ (r2 S3 _ u3 h5 h4)
    unfold rep
    exact ⟨q, vs, rfl, h4, reps_mono u3 _ _ rs⟩) fun _ z => z)))
theorem eal_dic {l : List (Key × D)} (j : Nat) (ha : At F ρ Γ a q) (hc : Γ[j]? = some (q, .dic l)) (h : EaL F ρ Γ q es ms) (hs : starEach (a :: es) F.X.env = (false, eval a F.X.env) :: starEach es F.X.env := by rfl) :
    EaL F ρ Γ q (a :: es) (ms.bind fun xs => .ok (.dic l :: xs)) := fun S H σ Q s w =>
  Wa.of (pa_cons pe_We pa_Wa hs) (ha S H σ _ s (h S H σ _ s (Res.wp_mono (Res.wp_bind w) (fun ds z us S2 H2 u2 s2 r2 => z (.ref q :: us) S2 H2 u2 s2 fun S3 o u3 h3 h4 => by
    obtain ⟨_, _, o', h5, vs, rfl, rs⟩ := s2.hg.ga.ce q _ (mem_at hc)
    rw [h5] at h3
    cases h3
    refine reps_cons ?_ (r2 S3 _ u3 h5 h4)
    unfold rep
    exact ⟨q, vs, rfl, h4, repk_mono u3 _ _ rs⟩) fun _ z => z)))
/-- the lent cell is back -/
theorem lent {c : Ce} {S1 H1 S' H' : Hp} {o : HO} {en : En} {K : PySem.W.Frag} (g : Hg K en S1 H1 Γ) (hc : Γ[j]? = some (q, c)) (ho : H1 q = some o) (e : Ext (upd S1 q o) H1 S' H') : Sub S1 (del S' q) ∧ Hg K en (del S' q) H' Γ := by
  obtain ⟨hq, _, _, _, _⟩ := g.ga.ce q _ (mem_at hc)
  have up : Sub S1 (del S' q) := fun a u h => by
    have ne : a ≠ q := ne_of_none h hq
    rw [del_ne ne]
    exact e.up a u (by rw [upd_ne ne]; exact h)
  refine ⟨up, g.ext ⟨up, fun a u h => ?_, e.same, fun a u h => ?_⟩⟩
  · by_cases z : a = q
    · subst z; rw [del_same] at h; cases h
    · rw [del_ne z] at h; exact e.sub a u h
  · by_cases z : a = q
    · subst z; rw [del_same] at h; cases h
    · rw [del_ne z] at h
      rcases e.new a u h with ⟨u', h'⟩ | h'
      · rw [upd_ne z] at h'; exact .inl ⟨u', h'⟩
      · exact .inr h'
theorem e_callL {c : Ce} (j : Nat) (hc : Γ[j]? = some (q, c)) (T : F.Kn x k G) (hr : Room k F.X.A) (h : EaL F ρ Γ q (a :: es) ms) (hg : Gl F.X x := by rfl)
    (hdb : (x == ("__debug__" : Str)) = false := by decide) (he : starEach (a :: es) F.X.env = (false, eval a F.X.env) :: starEach es F.X.env := by rfl) (hpl : (backTo pos (starEach es F.X.env)).any (·.1) = false := by rfl) :
    E F ρ Γ (.Call (.Name x p) (a :: es) [] pos) (ms.bind fun ds => (G ds).bind flatD) := fun S H σ Q s w => by
  obtain ⟨f, fd, ps, Fn, hm, hk, hb⟩ := T
  refine We.of (pe_callS (E := WE F.W) Fn hr hg hm hk hb (fun σ => passAt F.tk σ) pa_Wa hdb he hpl) (h S H σ _ s (Res.wp_mono (Res.wp_bind w) (fun ds w1 us S1 H1 u1 s1 r1 => ?_) fun _ z => z))
  obtain ⟨hq, _, o, ho, _⟩ := s1.hg.ga.ce q _ (mem_at hc)
  have uS : Sub S1 (upd S1 q o) := Sub.ext S1 hq
  refine ⟨upd S1 q o, ds, fun a u z => ?_, r1 _ o uS ho upd_same, Res.wp_mono (Res.wp_bind w1) (fun d z v S' H' e rv => ?_) fun k z S' H' e => ?_⟩
  · by_cases y : a = q
    · subst y; rw [upd_same] at z; cases z; exact ho
    · rw [upd_ne y] at z; exact s1.hg.hp.sub a u z
  · obtain ⟨up, g2⟩ := lent s1.hg hc ho e
    unfold flatD at z
    split at z
    · rename_i hf
      refine z v (del S' q) H' (u1.trans up) (s1.mk' up g2) ?_
      rw [rep_flat hf rv]
      cases d <;> first | rfl | (cases hf) | (unfold rep; rfl)
    · exact z.elim
  · obtain ⟨up, g2⟩ := lent s1.hg hc ho e
    exact z _ _ (s1.mk' up g2)
end
end RL

/-! RL31: reading a dict under a walk; tuples told by calls that change cells. -/
namespace RL
open PySem L2
theorem er_atF {F : Fr} {ρ : List Sl} {Γ : Ga} {e : Expr} {q : Addr} (j : Nat) {od : Obj} {vs : List (Key × V)} {l : List (Key × D)} (ho : At F ρ Γ e q) (hc : Γ[j]? = some (q, .fz od vs l)) : Er F ρ Γ e (.ok (.dic l)) := fun S H σ Q s w =>
  ho S H σ _ s (w _ S H (Sub.refl S) s fun S2 H2 u2 g2 => by
    obtain ⟨_, _, o, h1, rfl, rs⟩ := g2.ga.ce q _ (mem_at hc)
    exact ⟨q, vs, rfl, .inr ⟨od, h1⟩, rs⟩)
def uq {α γ : Type} (f : D → Res (List D)) (mr : List D → γ → Res α) (r : D × γ) : Res α := (f r.1).bind fun ds => mr ds r.2
theorem s_tupM {τ β κ γ : Type} {F : FrS} {o : τ → Al → List Sl × Ga} {ob : β → Al → List Sl × Ga} {oc : κ → Al → Ga} {ρ : List Sl} {g : γ → Al → Ga} {c : γ} {α : Al} {rest : List Stmt} {ks : List (List Stmt)} {pos : Pos} {tg e : Expr} {f : D → Res (List D)} {is : List Nat} {me : Res (D × γ)} {mr : List D → γ → Res (Fl τ β κ)} (he : EM F.toFr ρ g c α e me) (ht : Tj F.toFr tg f is)
    (hr : ∀ ds c α, SJ F o ob oc rest ks (setAll ρ is ds) (g c α) (mr ds c)) (ha : F.al ρ (g c α)) (hs : swapsWithSole [tg] e pos.line F.X.env = pure false := by rfl) (hw : swappedStores [tg] e F.X.env = pure none := by rfl)
    (hA : (assignEach [tg] F.X.env).map (·.2) = [assign tg F.X.env] := by rfl) :
    SJ F o ob oc (.Assign [tg] e pos :: rest) ks ρ (g c α) (me.bind (uq f mr)) := fun S H σ D s w =>
  WSs.of (pss_cons (ps_asg pe_We pg_W hs hw hA) pss_W) (he S H σ _ s (Res.wp_mono (Res.wp_bind w) (fun r w1 α1 v S1 H1 u1 s1 r1 =>
    ht S1 H1 σ v r.1 ρ (g r.2 α1) _ (Xs F) s1 r1 (Res.wp_mono (Res.wp_bind w1) (fun ds q us s' => (hr ds r.2 α1).run s' u1 q) fun _ q => q)) fun _ z => xw_of ha z))
def uaV {γ : Type} (n : γ → Res (D × γ)) (r : D × γ) : Res (D × γ) := match r.1 with
  | .bl true => noE (n r.2)
  | .bl false => .ok (.bl false, r.2)
  | _ => .stuck
def uoV {γ : Type} (n : γ → Res (D × γ)) (r : D × γ) : Res (D × γ) := match r.1 with
  | .bl false => noE (n r.2)
  | .bl true => .ok (.bl true, r.2)
  | _ => .stuck
section
variable {F : Fr} {ρ : List Sl} {γ : Type} {g : γ → Al → Ga} {c : γ} {α : Al} {e b : Expr} {rest : List Expr} {pos : Pos} {m : Res (D × γ)} {n : γ → Res (D × γ)}
theorem em_and (h : EM F ρ g c α e m) (k : ∀ c α, EM F ρ g c α (.BoolOp .And (b :: rest) pos) (n c)) : EM F ρ g c α (.BoolOp .And (e :: b :: rest) pos) (m.bind (uaV n)) := fun S H σ Q s w =>
  We.of (pe_and pe_We pe_We) (h S H σ _ s (Res.wp_mono (Res.wp_bind w) (fun r w1 α1 v S1 H1 u1 s1 rv => by
    obtain ⟨z, c'⟩ := r
    unfold uaV at w1
    simp only at w1
    split at w1
    · rw [rep_bl_eq rv]
      exact ⟨true, rfl, k c' α1 S1 H1 σ Q s1 (Res.wp_mono (noE_wp (R' := fun _ => False) w1) (fun d z α v S' H' u s' => z α v S' H' (u1.trans u) s') fun _ z => z.elim)⟩
    · rw [rep_bl_eq rv]
      exact ⟨false, rfl, w1 α1 _ S1 H1 u1 s1 rep_bl⟩
    · exact w1.elim) fun _ z => z))
theorem em_or (h : EM F ρ g c α e m) (k : ∀ c α, EM F ρ g c α (.BoolOp .Or (b :: rest) pos) (n c)) : EM F ρ g c α (.BoolOp .Or (e :: b :: rest) pos) (m.bind (uoV n)) := fun S H σ Q s w =>
  We.of (pe_or pe_We pe_We) (h S H σ _ s (Res.wp_mono (Res.wp_bind w) (fun r w1 α1 v S1 H1 u1 s1 rv => by
    obtain ⟨z, c'⟩ := r
    unfold uoV at w1
    simp only at w1
    split at w1
    · rw [rep_bl_eq rv]
      exact ⟨false, rfl, k c' α1 S1 H1 σ Q s1 (Res.wp_mono (noE_wp (R' := fun _ => False) w1) (fun d z α v S' H' u s' => z α v S' H' (u1.trans u) s') fun _ z => z.elim)⟩
    · rw [rep_bl_eq rv]
      exact ⟨true, rfl, w1 α1 _ S1 H1 u1 s1 rep_bl⟩
    · exact w1.elim) fun _ z => z))
end
end RL

/-! RL32: o.m(e), where e changes cells. -/
namespace RL
open PySem L2
def um {γ γi γo : Type} (ci : γ → γi) (up : γ → γo → γ) (G : List D → γi → Res (D × γo)) (r : D × γ) : Res (D × γ) := noE (mapR (sndM (up r.2)) (G [r.1] (ci r.2)))
section
variable {F : Fr} {ρ : List Sl} {a e o : Expr} {pos p apos : Pos} {ma : Res D} {x : Str} {k : Nat} {γ γi γo : Type} {shf : (Nat → Addr) → List (Option Addr)} {gi : (Nat → Addr) → γi → Ga} {go : (Nat → Addr) → Al → γi → γo → Ga} {G : List D → γi → Res (D × γo)} {g : γ → Al → Ga} {c : γ} {α : Al} {ci : γ → γi} {ps : Nat → Addr} {js : List Nat} {up : γ → γo → γ}
theorem em_methM {cl m : Str} {fs : List (Str × Sl)} {po : Addr} {ma : Res (D × γ)} (j : Nat) (T : F.Kn3M cl m k shf gi go G) (hr : Room k F.X.A) (ho : At F ρ (g c α) o po) (hc : (g c α)[j]? = some (po, .ins cl fs)) (hf : fs.lookup m = none) (hsh : shf ps = [some po, none])
    (h : EM F ρ g c α a ma) (hp : ∀ c α, Pick (g c α) js (gi ps (ci c))) (hj : js.Nodup) (ha : ∀ c α o, (go ps α (ci c) o).map (·.1) = (gi ps (ci c)).map (·.1)) (hu : ∀ c α α1 o, g (up c o) α1 = setG (g c α) js (go ps α1 (ci c) o)) {pl : Sem Bool}
    (hst : starEach [a] F.X.env = (false, eval a F.X.env) :: starEach [] F.X.env := by rfl) (hpl : (backTo pos (starEach [] F.X.env)).any (·.1) = false := by rfl)
    (ht : eval (.Call (.Attribute o m apos) [a] [] pos) F.X.env = (do
      let ov ← eval o F.X.env
      standAt apos.atName
      let (f, first) ← holding [ov] (getMethod ov m pl)
      callWith pos f first (backTo pos (starEach [a] F.X.env)) (backToKw pos (keywordEach [] F.X.env))) := by rfl) :
    EM F ρ g c α (.Call (.Attribute o m apos) [a] [] pos) (ma.bind (um ci up G)) := fun S H σ Q s w => by
  obtain ⟨f, fd, pr, Fn, hm, hcl, hb⟩ := T
  obtain ⟨_, _, ob, h3, dx, vs, rfl, rs⟩ := s.hg.ga.ce po _ (mem_at hc)
  have lk := fls_look (f := m) rs
  rw [hf] at lk
  have hpa : PA F.X [a] (fun σ H Q => We F.X a σ H fun v H' => Wa F.X [] σ H' fun vs H'' => Q (v :: vs) H'') := pa_cons pe_We pa_Wa hst
  refine We.of (We.meth pe_We hpa hst hpl ht) (ho S H σ _ s ⟨po, _, dx, vs, f, fd, pr, k, _, rfl, h3, lk, hcl, hm, Fn, hr, hb, ?_⟩)
  refine h S H σ _ s (Res.wp_mono (Res.wp_bind w) (fun r w1 α1 v S1 H1 u1 s1 rv => ?_) fun _ z => z)
  obtain ⟨d, c'⟩ := r
  refine Wa.of pa_nil ?_
  refine spM_of s1 (hp c' α1) hj (ha c') (hu c' α1) (vs := [.ref po, v]) (ds := [d]) ?_ (Res.wp_mono (wp_mapR (noE_wp (R' := fun _ => False) w1)) (fun r z α v S' H' u s' rv => z α v S' H' (u1.trans u) s' rv) fun _ z => z.elim)
  rw [hsh]
  exact ⟨_, _, rfl, rfl, _, _, rfl, ⟨v, rfl, rv⟩, rfl⟩
end
end RL

/-! RL33: told tuples with a new list in them. -/
namespace RL
open PySem L2
/-- a tuple's data: the cell's list put in -/
def tuD (l : List D) : List (D ⊕ Addr) → List D
  | [] => []
  | .inl d :: r => d :: tuD l r
  | .inr _ :: r => .lst l :: tuD l r
theorem tu_reps {K : PySem.W.Frag} {S S2 : Hp} {l : List D} {q : Addr} (u : Sub S S2) (hq : rep K S2 (.lst l) (.ref q)) : ∀ {ss : List (D ⊕ Addr)} {us : List V}, tuOk K S ss us → (∀ p, Sum.inr p ∈ ss → p = q) → reps K S2 (tuD l ss) us
  | [], us, r, _ => by
    have r : us = [] := r
    subst r; exact reps_nil
  | .inl d :: ss, us, r, h => by
    obtain ⟨v, t, rfl, rv, rs⟩ := r
    exact reps_cons (rep_mono u d v rv) (tu_reps u hq rs fun p hp => h p (List.mem_cons_of_mem _ hp))
  | .inr p :: ss, us, r, h => by
    obtain ⟨t, rfl, rs⟩ := r
    have e := h p List.mem_cons_self
    subst e
    exact reps_cons hq (tu_reps u hq rs fun p hp => h p (List.mem_cons_of_mem _ hp))
theorem tu_get {K : PySem.W.Frag} {S : Hp} : ∀ {ss : List (D ⊕ Addr)} {us : List V} {k : Nat} {s : D ⊕ Addr}, tuOk K S ss us → ss[k]? = some s → ∃ v, us[k]? = some v ∧ (match s with
    | .inl d => rep K S d v
    | .inr p => v = .ref p)
  | [], _, _, _, _, e => by simp at e
  | .inl d :: ss, us, 0, s, r, e => by
    obtain ⟨v, t, rfl, rv, rs⟩ := r
    simp at e; subst e
    exact ⟨v, rfl, rv⟩
  | .inr p :: ss, us, 0, s, r, e => by
    obtain ⟨t, rfl, rs⟩ := r
    simp at e; subst e
    exact ⟨.ref p, rfl, rfl⟩
  | .inl d :: ss, us, k + 1, s, r, e => by
    obtain ⟨v, t, rfl, rv, rs⟩ := r
    obtain ⟨w, h1, h2⟩ := tu_get (k := k) rs (by simpa using e)
    exact ⟨w, by simpa using h1, h2⟩
  | .inr p :: ss, us, k + 1, s, r, e => by
    obtain ⟨t, rfl, rs⟩ := r
    obtain ⟨w, h1, h2⟩ := tu_get (k := k) rs (by simpa using e)
    exact ⟨w, by simpa using h1, h2⟩
def fillS : List (Option Addr) → List D → List (D ⊕ Addr)
  | [], _ => []
  | some p :: r, ds => .inr p :: fillS r ds
  | none :: r, d :: ds => .inl d :: fillS r ds
  | none :: r, [] => .inl .non :: fillS r []
theorem tu_of {K : PySem.W.Frag} {S : Hp} : ∀ {sh : List (Option Addr)} {ds : List D} {us : List V}, slsOk K S (fill sh ds) (us.map some) → sh.countP (·.isNone) ≤ ds.length → tuOk K S (fillS sh ds) us
  | [], ds, us, r, _ => by
    have r : us.map some = [] := r
    have : us = [] := by simpa using r
    subst this; exact (rfl : ([] : List V) = [])
  | some p :: sh, ds, us, r, h => by
    obtain ⟨o, t, e, h1, h2⟩ := r
    cases us with
    | nil => cases e
    | cons v us =>
      rw [List.map_cons] at e
      injection e with e1 e2
      subst e1 e2
      have h1 : some v = some (.ref p) := h1
      cases h1
      exact ⟨us, rfl, tu_of h2 (by simpa using h)⟩
  | none :: sh, d :: ds, us, r, h => by
    obtain ⟨o, t, e, h1, h2⟩ := r
    cases us with
    | nil => cases e
    | cons v us =>
      rw [List.map_cons] at e
      injection e with e1 e2
      subst e1 e2
      obtain ⟨v', e3, rv⟩ := h1
      cases e3
      refine ⟨v, us, rfl, rv, tu_of h2 ?_⟩
      rw [List.countP_cons_of_pos rfl, List.length_cons] at h
      omega
  | none :: sh, [], us, r, h => by
    rw [List.countP_cons_of_pos rfl, List.length_nil] at h
    omega
/-- the promise: a told tuple's list at i is new since the entry -/
def FrT (i : Nat) (K : PySem.W.Frag) (en : En) : D → V → Hp → Hp → Ga → Prop := fun d v S' H' Γ =>
  ∀ ds l, d = .tup ds → ds[i]? = some (.lst l) → ∃ q us p, v = .ref q ∧ en.H0 p = none ∧ SqT K (del S' p) q us ∧ tuOk K (del S' p) ((ds.map Sum.inl).set i (Sum.inr p)) us ∧ Hg K en (del S' p) H' ((p, .lst l) :: Γ)
theorem frT_no {i : Nat} {K : PySem.W.Frag} {en : En} {d : D} {v : V} {S H : Hp} {Γ : Ga} (h : ∀ l, d ≠ .tup l) : FrT i K en d v S H Γ := fun ds l e => absurd e (h ds)
def spT (i : Nat) (K : PySem.W.Frag) (G : List D → Res D) : Sp := fun vs H Q Er => ∃ S ds, Sub S H ∧ reps K S ds vs ∧
  (G ds).wp (fun d => ∀ v S' H', Ext S H S' H' → rep K S' d v → FrT i K ⟨H, S, []⟩ d v S' H' [] → Q v H') (fun k => ∀ S' H', Ext S H S' H' → Er (.ref (He.ga K k)) none H')
section
variable (P : Program) (w : World) (K : PySem.W.Frag) (mg : Str → Option Value) (base : Heap)
def KnT (i : Nat) (x : Str) (k : Nat) (G : List D → Res D) : Prop := ∃ f fd ps, FnOk P w K mg base (L2.CX P w) k f fd ps (spT i K G) ∧ mg x = some (.ref f) ∧ PySem.W.keepIn K (.ref f) = true ∧ Binds K fd ps []
abbrev frT (i : Nat) (N : List Str) (qual : Str) (scope : Scope) (f : Addr) (cdv : Value) (A : Around) (outer : List Env) (s : Shared) (H : Hp) (Er : XK) (S0 : Hp) : FrS :=
  { X := cxOf (L2.CX P w) P w K mg base N qual scope f cdv A outer s H Er, W := fun cls d _ H => Er cls d H, en := ⟨H, S0, []⟩, tk := takes_of rfl rfl rfl rfl, al := fun _ _ => True, rt := FrT i K ⟨H, S0, []⟩ }
end
abbrev Fr.KnT (F : Fr) (i : Nat) := RL.KnT F.X.prog F.X.w F.X.K F.X.mg F.X.base i
section
variable {P : Program} {w : World} {K : PySem.W.Frag} {mg : Str → Option Value} {base : Heap} {x qual : Str} {params : Arguments} {body : List Stmt} {scope : Scope} {f : Addr} {fd : FuncData} {N ps : List Str} {k : Nat}
theorem fn_mkT (i : Nat) (Fd : FunD K x qual params body scope [] [] f fd) (Sc : FnScope N ps scope) (m : List D → Me) (hl : ∀ ds, ds.length ≠ ps.length → m ds = .stuck)
    (hb : ∀ cdv A outer s H Er S0 ds, ds.length = ps.length → Room k (A.deeper (PyProof.Rows.envOfC qual scope s.heap.objs.size f cdv)) →
      SJ (τ := Unit) (β := Empty) (κ := Unit) (frT P w K mg base i N qual scope f cdv A outer s H Er S0) (o0 N.length) ob0 oc0 body [] (ds.map Sl.is ++ List.replicate (N.length - ds.length) Sl.un) [] (m ds)) :
    FnOk P w K mg base (L2.CX P w) (k + 1) f fd ps (spT i K fun ds => told (m ds)) := by
  have len : ∀ vs H Q E, spT i K (fun ds => told (m ds)) vs H Q E → vs.length = ps.length := fun vs H Q E h => by
    obtain ⟨S, ds, u, r, wp⟩ := h
    by_cases e : ds.length = ps.length
    · rw [reps_len r, e]
    · replace wp : (told (m ds)).wp _ _ := wp
      rw [hl ds e] at wp
      exact wp.elim
  refine FunD.ok Fd Sc len fun cdv A outer s H vs Q Er hr h => ?_
  obtain ⟨S, ds, u, r, wp⟩ := id h
  have e : ds.length = ps.length := by rw [← reps_len r]; exact len _ _ _ _ h
  refine ⟨_, pss_W, ?_⟩
  have st : StOk K ⟨H, S, []⟩ S H (L2.start N vs) (ds.map Sl.is ++ List.replicate (N.length - ds.length) Sl.un) [] := by
    refine ⟨⟨⟨u, fun a o _ q => q, fun a o q => ⟨o, q⟩, fun p hm => (nomatch hm), Sub.refl S, fun a o q => .inl ⟨o, q⟩⟩, ⟨fun p c hm => (nomatch hm), List.nodup_nil⟩⟩, ?_⟩
    unfold L2.start
    rw [reps_len r]
    exact slsOk_args _ r
  have ext : ∀ S' H', Sub S S' → Hg K ⟨H, S, []⟩ S' H' [] → Ext S H S' H' := fun S' H' u' g =>
    ⟨u', g.hp.sub, fun a o q => g.hp.keep a o (fun z => nomatch z) q, g.hp.fresh⟩
  refine (hb cdv A outer s H Er S ds e hr).body (S := S) _ st (Sub.refl S) ?_
  replace wp : (told (m ds)).wp _ _ := wp
  cases q : m ds with
  | ok fl =>
    rw [q] at wp
    cases fl with
    | nx t =>
      intro α _ S' H' σ' u' s'
      exact wp .non S' H' (ext S' H' u' ⟨s'.hg.hp, ⟨fun p c hm => (nomatch hm), List.nodup_nil⟩⟩) rep_non (frT_no fun l z => by cases z)
    | rt d c =>
      intro α v S' H' u' g r' z
      exact wp v S' H' (ext S' H' u' g) r' z
    | bk e => exact nomatch e
    | ct e => exact nomatch e
  | exc c =>
    rw [q] at wp
    intro ρ' Γ' S' H' σ' _ s'
    have g := s'.hg
    exact wp S' H' ⟨g.hp.s0, g.hp.sub, fun a o q => g.hp.keep a o (fun z => nomatch z) q, g.hp.fresh⟩
  | stuck => rw [q] at wp; exact wp
theorem KnT.kn {i : Nat} {G : List D → Res D} (h : KnT P w K mg base i x k G) : Kn P w K mg base x k G := by
  obtain ⟨f, fd, ps, Fn, r⟩ := h
  exact ⟨f, fd, ps, Fn.imp (fun vs H Q E ⟨S, ds, u, rs, wp⟩ => ⟨S, ds, u, rs, Res.wp_mono wp (fun d z v S' H' e rv _ => z v S' H' e rv) fun _ z => z⟩), r⟩
end
theorem Hg.freezeL {K : PySem.W.Frag} {en : En} {S H : Hp} {Γ : Ga} {j : Nat} {q : Addr} {l : List D} (g : Hg K en S H Γ) (h : Γ[j]? = some (q, .lst l)) (hn : q ∉ en.O) :
    ∃ vs, H q = some (.lst vs) ∧ S q = none ∧ en.H0 q = none ∧ reps K S l vs ∧ q ∉ (Γ.eraseIdx j).map (·.1) ∧ Hg K en (upd S q (.lst vs)) H (Γ.eraseIdx j) := by
  obtain ⟨h1, h2, o, h3, vs, rfl, rs⟩ := g.ga.ce q _ (mem_at h)
  have h0 : en.H0 q = none := h2.resolve_left hn
  have u : Sub S (upd S q (.lst vs)) := Sub.ext S h1
  have ne : ∀ b c, (b, c) ∈ Γ.eraseIdx j → b ≠ q := fun b c hm z => by
    subst z
    obtain ⟨m, hj, hje⟩ := List.mem_eraseIdx_iff_getElem?.mp hm
    have n1 : (Γ.map (·.1))[j]? = some b := by rw [List.getElem?_map, h]; rfl
    have n2 : (Γ.map (·.1))[m]? = some b := by rw [List.getElem?_map, hje]; rfl
    obtain ⟨l1, e1⟩ := List.getElem?_eq_some_iff.mp n1
    obtain ⟨l2, e2⟩ := List.getElem?_eq_some_iff.mp n2
    exact absurd ((List.getElem_inj g.ga.nd).mp (e2.trans e1.symm)) hj
  refine ⟨vs, h3, h1, h0, rs, fun hm => ?_, ⟨⟨fun a v e => ?_, g.hp.keep, g.hp.there, g.hp.oh, g.hp.s0.trans u, fun a v e => ?_⟩, ⟨fun b c2 hm => ?_, ?_⟩⟩⟩
  · obtain ⟨⟨b, c⟩, hb, e⟩ := List.mem_map.mp hm
    exact ne b c hb e
  · by_cases z : a = q
    · subst z; rw [upd_same] at e; cases e; exact h3
    · rw [upd_ne z] at e; exact g.hp.sub a v e
  · by_cases z : a = q
    · subst z; exact .inr h0
    · rw [upd_ne z] at e; exact g.hp.fresh a v e
  · obtain ⟨k1, k2, v, k3, k4⟩ := g.ga.ce b c2 (List.mem_of_mem_eraseIdx hm)
    exact ⟨by rw [upd_ne (ne b c2 hm)]; exact k1, k2, v, k3, k4.mono u⟩
  · exact ((List.eraseIdx_sublist Γ j).map (fun x : Addr × Ce => x.1)).nodup g.ga.nd
def retT {τ β κ : Type} (c : κ) (n : Nat) (f : List D → List D) (ds : List D) : Res (Fl τ β κ) := if ds.length = n then .ok (.rt (.tup (f ds)) c) else .stuck
theorem retT_eq {τ β κ : Type} {c : κ} {n : Nat} {f g : List D → List D} (h : ∀ ds, ds.length = n → f ds = g ds) : (retT c n f : List D → Res (Fl τ β κ)) = retT c n g := by
  funext ds
  unfold retT
  by_cases e : ds.length = n
  · rw [if_pos e, if_pos e, h ds e]
  · rw [if_neg e, if_neg e]
section
variable {τ τ' β κ : Type} {F : FrS} {o : τ → Al → List Sl × Ga} {o' : τ' → Al → List Sl × Ga} {ob : β → Al → List Sl × Ga} {oc : κ → Al → Ga} {ρ : List Sl} {Γ : Ga} {rest : List Stmt} {ks : List (List Stmt)} {pos p tpos : Pos} {i k n : Nat} {a e : Expr} {es : List Expr} {x fx : Str} {ms : Res (List D)} {G : List D → Res D} {q : Addr} {l : List D} {sh : List (Option Addr)}
/-- return (.., a cell, ..) -/
theorem s_retT {c : κ} {kx : Nat} (α : Al) (j : Nat) (hc : Γ[j]? = some (q, .lst l)) (hn : q ∉ F.en.O) (h : EaS F.toFr ρ Γ sh es ms) (f : Fewer (Γ.eraseIdx j) (oc c α)) (ha : F.al ρ Γ) (hsz : n ≤ 1000)
    (hsh : ∀ ds : List D, ds.length = n → sh.countP (·.isNone) ≤ ds.length ∧ ((tuD l (fillS sh ds)).map Sum.inl).set i (Sum.inr q) = fillS sh ds ∧ (tuD l (fillS sh ds))[i]? = some (.lst l) ∧ (∀ p, Sum.inr p ∈ fillS sh ds → p = q))
    (hq : ∀ d v S H G, FrT i F.X.K F.en d v S H G → F.rt d v S H G := by exact fun _ _ _ _ _ z => z) (hlen : sh.length ≤ 1000 := by exact Nat.le_of_ble_eq_true rfl) :
    SJ F o ob oc (.Return (some (.Tuple es kx tpos)) pos :: rest) ks ρ Γ (ms.bind (retT c n fun ds => tuD l (fillS sh ds))) := fun S H σ D s w => by
  refine WSs.of (pss_cons (ps_ret (pe_tup pa_Wa)) (pss_never (sts := rest))) (h S H σ _ s (Res.wp_mono (Res.wp_bind w) (fun ds w1 us S1 H1 u1 s1 r1 => ?_) fun _ z => xw_of ha z))
  unfold retT at w1
  split at w1
  · rename_i hdl
    obtain ⟨h1, h2, h3, h4⟩ := hsh ds hdl
    have tk := tu_of r1 h1
    have hul : us.length = sh.length := by
      have := r1.len
      rw [List.length_map, fill_len] at this
      exact this
    refine ⟨by rw [hul]; exact Nat.le_trans hlen (by decide), fun p hp => ?_⟩
    have sp := s1.hg.hp.sub.none hp
    have g2 := s1.hg.share (o := .tup us) hp
    obtain ⟨vs, k1, k2, k3, k4, k5, g3⟩ := g2.freezeL hc hn
    have tk2 := tk.mono (Sub.ext S1 (o := .tup us) sp)
    have hqr : rep F.X.K (upd (upd S1 p (.tup us)) q (.lst vs)) (.lst l) (.ref q) := rep_lst_new k2 k4
    have uq : Sub (upd S1 p (.tup us)) (upd (upd S1 p (.tup us)) q (.lst vs)) := Sub.ext _ k2
    have hsq : (upd S1 p (.tup us)) p = some (.tup us) := upd_same
    refine w1 α (.ref p) _ _ ((u1.trans (Sub.ext S1 sp)).trans uq) ⟨g3.hp, g3.ga.fewer f⟩ ?_ (hq _ _ _ _ _ fun ds' l' e1 e2 => ?_)
    · unfold rep
      exact ⟨p, us, rfl, .inl (.inl (uq _ _ hsq)), tu_reps uq hqr tk2 h4⟩
    · cases e1
      rw [h3] at e2
      cases e2
      refine ⟨p, us, q, rfl, k3, ?_⟩
      rw [del_upd k2, h2]
      refine ⟨.inl (.inl hsq), tk2, ?_⟩
      have gf : Hg F.X.K F.en (upd S1 p (.tup us)) (upd H1 p (.tup us)) (oc c α) := ⟨g2.hp, (g2.ga.fewer (List.eraseIdx_sublist Γ j)).fewer f⟩
      exact gf.add k2 k3 k1 ⟨vs, rfl, k4⟩ fun hm => k5 ((f.map (fun x : Addr × Ce => x.1)).subset hm)
  · exact w1.elim
/-- x = f(..): a tuple of three with a new list in the middle, or something else -/
def orT3 {α : Type} (m1 : D → List D → D → Res α) (m2 : D → Res α) : D → Res α
  | .tup [a, .lst l, b] => m1 a l b
  | d => m2 d
/-- a told tuple's list taken over -/
theorem ownT_of {i : Nat} {ρ : List Sl} {Γ : Ga} {S1 H1 σ} {ds : List D} {v : V} {l : List D} {S' H' : Hp} (s1 : StOk F.X.K F.en S1 H1 σ ρ Γ) (e : Ext S1 H1 S' H') (fr : FrT i F.X.K ⟨H1, S1, []⟩ (.tup ds) v S' H' []) (el : ds[i]? = some (.lst l)) :
    ∃ t us q S2, v = .ref t ∧ q ∉ F.en.O ∧ Sub S1 S2 ∧ SqT F.X.K S2 t us ∧ tuOk F.X.K S2 ((ds.map Sum.inl).set i (Sum.inr q)) us ∧ StOk F.X.K F.en S2 H' σ ρ ((q, .lst l) :: Γ) := by
  obtain ⟨t, us, q, rfl, h0, h1, h2, g⟩ := fr ds l rfl el
  have h0 : H1 q = none := h0
  have e2 : Ext S1 H1 (del S' q) H' := ⟨g.hp.s0, g.hp.sub, e.same, g.hp.fresh⟩
  have g2 := s1.hg.ext e2
  obtain ⟨_, _, ob, h3, h4⟩ := g.ga.ce q _ List.mem_cons_self
  refine ⟨t, us, q, del S' q, rfl, s1.hg.no h0, g.hp.s0, h1, h2, g2.add del_same (s1.hg.h0 h0) h3 h4 (fun hm => ?_), s1.sl.mono g.hp.s0⟩
  obtain ⟨⟨b, c⟩, hb, eq⟩ := List.mem_map.mp hm
  have eq : b = q := eq
  subst eq
  obtain ⟨_, _, u, h5, _⟩ := s1.hg.ga.ce b c hb
  rw [h0] at h5; cases h5
theorem s_setT3 {m1 : D → List D → D → Res (Fl τ β κ)} {m2 : D → Res (Fl τ β κ)} {pos' cpos : Pos} (T : F.toFr.KnT 1 fx k G) (hr : Room k F.X.A) (h : Ea F.toFr ρ Γ (a :: es) ms)
    (h1 : ∀ a l b q, q ∉ F.en.O → SJ F o ob oc rest ks (ρ.set i (.tu [.inl a, .inr q, .inl b])) ((q, .lst l) :: Γ) (m1 a l b)) (h2 : ∀ d, SJ F o ob oc rest ks (ρ.set i (.is d)) Γ (m2 d)) (hN : F.X.N.Nodup) (hi : F.X.N[i]? = some x) (hx : Loc F.X.env.scope x) (ha : F.al ρ Γ)
    (hs : swapsWith (.Call (.Name fx p) (a :: es) [] cpos) (some (.Name x pos')) pos.line F.X.env = pure false := by rfl) (hf : F.X.fn x = true ∨ F.X.env.scope.names.lookup x = some .local := by first | exact .inl rfl | exact .inr rfl)
    (hg : Gl F.X fx := by rfl) (hdb : (fx == ("__debug__" : Str)) = false := by decide)
    (he : starEach (a :: es) F.X.env = (false, eval a F.X.env) :: starEach es F.X.env := by rfl) (hpl : (backTo cpos (starEach es F.X.env)).any (·.1) = false := by rfl) :
    SJ F o ob oc (.Assign [.Name x pos'] (.Call (.Name fx p) (a :: es) [] cpos) pos :: rest) ks ρ Γ (ms.bind fun ds => (G ds).bind (orT3 m1 m2)) := fun S H σ D s w => by
  obtain ⟨f, fd, ps, Fn, hm, hk, hb⟩ := T
  refine WSs.of (pss_cons (ps_set hN hi hx (pe_callS (E := WE F.W) Fn hr hg hm hk hb (fun σ => passAt F.tk σ) pa_Wa hdb he hpl) hs hf) pss_W) ?_
  refine h S H σ _ s (Res.wp_mono (Res.wp_bind w) (fun ds w1 vs S1 H1 u1 s1 r1 => ?_) fun _ z => xw_of ha z)
  refine ⟨S1, ds, s1.hg.hp.sub, r1, Res.wp_mono (Res.wp_bind w1) (fun d z v S' H' e rv fr => ?_) fun c z S' H' e => xw_of ha z S' H' (s1.mk' e.up (s1.hg.ext e))⟩
  unfold orT3 at z
  split at z
  · obtain ⟨t, us, q, S2, rfl, n, u2, h3, h4, s2⟩ := ownT_of s1 e fr rfl
    exact (h1 _ _ _ q n).run ⟨s2.hg, s2.sl.set i ⟨t, us, rfl, h3, h4⟩⟩ (u1.trans u2) z
  · have s2 := s1.mk' e.up (s1.hg.ext e)
    exact (h2 _).run ⟨s2.hg, s2.sl.set i ⟨v, rfl, rv⟩⟩ (u1.trans e.up) z
end
/-! reading such a tuple -/
section
variable {F : Fr} {ρ : List Sl} {Γ : Ga} {a e : Expr} {pos p kp : Pos} {ma : Res D} {es : List Expr} {ms : Res (List D)} {x : Str} {ss : List (D ⊕ Addr)} {q : Addr} {d : D} {kn : Nat} {k : Nat}
theorem tix_run (i : Nat) (hs : ρ[i]? = some (.tu ss)) {s : D ⊕ Addr} (hk : ss[k]? = some s) (hN : F.X.N[i]? = some x) (hv : Vis F.X.env.scope x) (h1 : (x == ("__debug__" : Str)) = false) (h2 : (x == ("__classdict__" : Str)) = false) (hpi : PlainIx (.Constant (.int (k : Int)) kn kp))
    {S H σ Q} (st : StOk F.X.K F.en S H σ ρ Γ) (hq : ∀ v, (match s with
      | .inl d => rep F.X.K S d v
      | .inr p => v = .ref p) → Q v H) : We F.X (.Subscript (.Name x p) (.Constant (.int (k : Int)) kn kp) pos) σ H Q := by
  obtain ⟨o, e, hu⟩ := st.sl.get hs
  obtain ⟨t, us, rfl, h3, h4⟩ := hu
  obtain ⟨v, h5, h6⟩ := tu_get h4 hk
  exact We.of (pe_ix ix_tup (pe_var hN hv h1 h2) pe_int hpi) ⟨.ref t, e, t, us, (k : Int), v, rfl, rfl, st.hg.hp.sub.sqT h3, by rw [atI_nat]; exact h5, hq v h6⟩
theorem e_tix (i k : Nat) (hs : ρ[i]? = some (.tu ss)) (hk : ss[k]? = some (.inl d)) (hN : F.X.N[i]? = some x := by rfl) (hv : Vis F.X.env.scope x := by first | exact Or.inl rfl | exact Or.inr (Or.inl rfl) | exact Or.inr (Or.inr rfl))
    (h1 : (x == ("__debug__" : Str)) = false := by decide) (h2 : (x == ("__classdict__" : Str)) = false := by decide) (hpi : PlainIx (.Constant (.int (k : Int)) kn kp) := by exact fun _ _ => rfl) : E F ρ Γ (.Subscript (.Name x p) (.Constant (.int (k : Int)) kn kp) pos) (.ok d) := fun S H σ Q s w =>
  tix_run i hs hk hN hv h1 h2 hpi s fun v hv => w v S H (Sub.refl S) s hv
theorem at_tix (i k : Nat) (hs : ρ[i]? = some (.tu ss)) (hk : ss[k]? = some (.inr q)) (hN : F.X.N[i]? = some x := by rfl) (hv : Vis F.X.env.scope x := by first | exact Or.inl rfl | exact Or.inr (Or.inl rfl) | exact Or.inr (Or.inr rfl))
    (h1 : (x == ("__debug__" : Str)) = false := by decide) (h2 : (x == ("__classdict__" : Str)) = false := by decide) (hpi : PlainIx (.Constant (.int (k : Int)) kn kp) := by exact fun _ _ => rfl) : At F ρ Γ (.Subscript (.Name x p) (.Constant (.int (k : Int)) kn kp) pos) q := fun S H σ Q s h =>
  tix_run i hs hk hN hv h1 h2 hpi s fun v hv => by
    have hv : v = .ref q := hv
    rw [hv]; exact h
theorem t_tun (i : Nat) (hs : ρ[i]? = some (.tu ss)) (hN : F.X.N[i]? = some x := by rfl) (hv : Vis F.X.env.scope x := by first | exact Or.inl rfl | exact Or.inr (Or.inl rfl) | exact Or.inr (Or.inr rfl))
    (h1 : (x == ("__debug__" : Str)) = false := by decide) (h2 : (x == ("__classdict__" : Str)) = false := by decide) (hm : behindInMarks .IsNot (.Constant .none kn kp) = false := by first | exact nomark _ | rfl) : T F ρ Γ (.Compare (.Name x p) [.IsNot] [.Constant .none kn kp] pos) (.ok true) := fun S H σ Q s w => by
  obtain ⟨o, e, hu⟩ := s.sl.get hs
  obtain ⟨t, us, rfl, h3, h4⟩ := hu
  exact Wt.of (pt_cmpR op_notN (pe_var hN hv h1 h2) pe_non hm) ⟨.ref t, e, rfl, true, rfl, w S H (Sub.refl S) s⟩
/-- such a tuple lent -/
theorem eal_tu {l : List D} (i j : Nat) (hs : ρ[i]? = some (.tu ss)) (hc : Γ[j]? = some (q, .lst l)) (hss : ∀ p, Sum.inr p ∈ ss → p = q) (h : EaL F ρ Γ q es ms) (hN : F.X.N[i]? = some x := by rfl) (hv : Vis F.X.env.scope x := by first | exact Or.inl rfl | exact Or.inr (Or.inl rfl) | exact Or.inr (Or.inr rfl))
    (h1 : (x == ("__debug__" : Str)) = false := by decide) (h2 : (x == ("__classdict__" : Str)) = false := by decide) (hst : starEach (.Name x p :: es) F.X.env = (false, eval (.Name x p) F.X.env) :: starEach es F.X.env := by rfl) :
    EaL F ρ Γ q (.Name x p :: es) (ms.bind fun xs => .ok (.tup (tuD l ss) :: xs)) := fun S H σ Q s w => by
  obtain ⟨o, e, hu⟩ := s.sl.get hs
  obtain ⟨t, us, rfl, h3, h4⟩ := hu
  refine Wa.of (pa_cons (pe_var hN hv h1 h2) pa_Wa hst) ⟨.ref t, e, h S H σ _ s (Res.wp_mono (Res.wp_bind w) (fun ds z vs S2 H2 u2 s2 r2 => z (.ref t :: vs) S2 H2 u2 s2 fun S3 o' u3 h5 h6 => ?_) fun _ z => z)⟩
  obtain ⟨_, _, o2, h7, ws, rfl, rs⟩ := s2.hg.ga.ce q _ (mem_at hc)
  rw [h7] at h5
  cases h5
  refine reps_cons ?_ (r2 S3 _ u3 h7 h6)
  have hq : rep F.X.K S3 (.lst l) (.ref q) := by
    unfold rep
    exact ⟨q, ws, rfl, h6, reps_mono u3 _ _ rs⟩
  unfold rep
  exact ⟨t, us, rfl, (u2.trans u3).sqT h3, tu_reps (u2.trans u3) hq h4 hss⟩
end
section
variable {τ τ' β κ : Type} {F : FrS} {o : τ → Al → List Sl × Ga} {ob : β → Al → List Sl × Ga} {oc : κ → Al → Ga} {ρ : List Sl} {Γ : Ga} {rest : List Stmt} {ks : List (List Stmt)} {pos : Pos} {a e : Expr} {me : Res D} {q : Addr} {l : List D}
/-- a.append(e), a an expression that tells a cell -/
theorem s_appA {mr : List D → Res (Fl τ β κ)} {apos cpos : Pos} (j : Nat) (ho : At F.toFr ρ Γ a q) (hc : Γ[j]? = some (q, .lst l)) (he : E F.toFr ρ Γ e me) (hr : ∀ l', SJ F o ob oc rest ks ρ (Γ.set j (q, .lst l')) (mr l')) (ha : F.al ρ Γ)
    (hpe : ∀ {to : TE} {t : TA}, PE F.X a to → PA F.X [e] t → PE F.X (.Call (.Attribute a "append" apos) [e] [] cpos) (tBM F.X.K "list" rAppend to t) := by exact fun ho ha => pe_bm PySem.F.plainAttrs_list PySem.F.slot_list_append PySem.F.type_list_append mt_append ho ha)
    (hst : starEach (e :: []) F.X.env = (false, eval e F.X.env) :: starEach [] F.X.env := by rfl)
    (hsw : swapsWith (.Call (.Attribute a "append" apos) [e] [] cpos) none pos.line F.X.env = pure false := by rfl) :
    SJ F o ob oc (.Expr (.Call (.Attribute a "append" apos) [e] [] cpos) pos :: rest) ks ρ Γ (me.bind fun d => (app l d).bind mr) := fun S H σ D s w => by
  refine WSs.of (pss_cons (ps_expr (hpe pe_We (pa_cons pe_We pa_nil hst)) hsw) pss_W) (ho S H σ _ s ?_)
  obtain ⟨_, _, ho', h3, vs, rfl, rs⟩ := s.hg.ga.ce q _ (mem_at hc)
  refine ⟨.inl ⟨rfl, _, SqL.of h3⟩, he.at ha s w fun d v S1 H1 u1 s1 r1 w1 => ?_⟩
  obtain ⟨_, _, o1, h5, vs1, rfl, rs1⟩ := s1.hg.ga.ce q _ (mem_at hc)
  unfold app at w1
  split at w1
  · rename_i hl
    refine ⟨q, vs1, v, rfl, rfl, h5, by rw [reps_len rs1]; exact hl, ?_⟩
    exact (hr _).run ⟨s1.hg.write hc ⟨_, rfl, reps_app rs1 (reps_one r1)⟩, s1.sl⟩ u1 w1
  · exact w1.elim
end
end RL

/-! RL34: texts: join, split, find, startswith. -/
namespace RL
open PySem L2
namespace D
def allStr : List D → Option (List Str)
  | [] => some []
  | .str x :: r => (allStr r).map (x :: ·)
  | _ :: _ => none
def joinOk (a : Str) (ys : List Str) : Bool := decide ((ys.map (·.length)).sum + ys.length * a.length ≤ 16777216)
def joinL (a : Str) (l : List D) : Res D := match allStr l with
  | some ys => if joinOk a ys = true then .ok (.str (Txt.join a ys)) else .stuck
  | none => .stuck
def join1 : D → D → Res D
  | .str a, .lst l => joinL a l
  | .str a, .tup l => joinL a l
  | _, _ => .stuck
def split1 : D → D → Res D
  | .str a, .str b => if (b.length == 0) = false ∧ a.length + 2 ≤ sizeLine then .ok (.lst ((Txt.split a b).map D.str)) else .stuck
  | _, _ => .stuck
def find1 : D → D → Res D
  | .str a, .str b => .ok (.int (Txt.find a b))
  | _, _ => .stuck
def starts1 : D → D → Res D
  | .str a, .str b => .ok (.bl (Txt.startswith a b))
  | _, _ => .stuck
end D
/-- a text, else stuck -/
def asS : D → Res Unit
  | .str _ => .ok ()
  | _ => .stuck
theorem reps_strs {K : PySem.W.Frag} {S : Hp} : ∀ {l : List D} {ys : List Str} {vs : List V}, D.allStr l = some ys → reps K S l vs → vs = ys.map V.str
  | [], ys, vs, e, r => by
    cases e
    unfold reps at r
    exact r
  | .str x :: l, ys, vs, e, r => by
    unfold D.allStr at e
    cases q : D.allStr l with
    | none => rw [q] at e; cases e
    | some zs =>
      rw [q] at e
      cases e
      unfold reps at r
      obtain ⟨v, r', e', h1, h2⟩ := r
      rw [rep_str_eq h1, reps_strs q h2] at e'
      exact e'
  | .non :: _, _, _, e, _ | .bl _ :: _, _, _, e, _ | .int _ :: _, _, _, e, _ | .lst _ :: _, _, _, e, _ | .tup _ :: _, _, _, e, _ | .dic _ :: _, _, _, e, _ | .scr _ :: _, _, _, e, _ | .obj _ _ :: _, _, _, e, _ => by
    unfold D.allStr at e; cases e
theorem reps_of_strs {K : PySem.W.Frag} {S : Hp} : ∀ (ys : List Str), reps K S (ys.map D.str) (ys.map V.str)
  | [] => by unfold reps; rfl
  | y :: ys => by
    show reps K S (.str y :: ys.map D.str) _
    unfold reps
    exact ⟨_, _, rfl, rep_str, reps_of_strs ys⟩
section
variable {F : Fr} {ρ : List Sl} {Γ : Ga} {o e : Expr} {apos pos : Pos}
theorem e_join {mo me : Res D} (ho : E F ρ Γ o mo) (he : Er F ρ Γ e me) (hs : starEach [e] F.X.env = [(false, eval e F.X.env)] := by rfl)
    (hbase : attributeBase o "join" F.X.env (eval o F.X.env) = eval o F.X.env := by rfl) (hline : (apos.endLine == pos.line) = true := by rfl) :
    E F ρ Γ (.Call (.Attribute o "join" apos) [e] [] pos) (mo.bind fun a => (asS a).bind fun _ => me.bind fun l => D.join1 a l) := fun S H σ Q s w =>
  We.of (pe_join pe_We pe_We hs hbase hline) (ho.go s w fun a va S1 H1 u1 s1 r1 w1 => by
    cases a with
    | str a =>
      refine ⟨⟨a, rep_str_eq r1⟩, he.go s1 w1 fun l vl S2 H2 u2 s2 r2 w2 => ?_⟩
      have r3 := r2 S2 H2 (Sub.refl S2) s2.hg
      have fin : ∀ {l : List D} {vs : List V} {p : Addr}, vl = .ref p → (SqL F.X.K H2 p vs ∨ SqT F.X.K H2 p vs) → reps F.X.K S2 l vs → (D.joinL a l).wp (fun d => ∀ v S' H', Sub S S' → StOk F.X.K F.en S' H' σ ρ Γ → rep F.X.K S' d v → Q v H') (Xw F ρ Γ σ) →
          ∃ a p, ∃ ys : List Str, va = .str a ∧ [vl] = [.ref p] ∧ (SqL F.X.K H2 p (ys.map V.str) ∨ SqT F.X.K H2 p (ys.map V.str)) ∧ (ys.map (·.length)).sum + ys.length * a.length ≤ 16777216 ∧ Q (.str (Txt.join a ys)) H2 := by
        intro l vs p e hq rs w
        subst e
        unfold D.joinL at w
        cases q : D.allStr l with
        | none => rw [q] at w; exact w.elim
        | some ys =>
          rw [q] at w
          dsimp only at w
          by_cases hz : D.joinOk a ys = true
          · rw [if_pos hz] at w
            rw [reps_strs q rs] at hq
            exact ⟨a, p, ys, rep_str_eq r1, rfl, hq, of_decide_eq_true hz, w _ S2 H2 (u1.trans u2) s2 rep_str⟩
          · rw [if_neg hz] at w; exact w.elim
      cases l with
      | lst l =>
        obtain ⟨p, vs, e, hr, rs⟩ := srep_lst r3
        exact fin e (.inl (.inl hr)) rs w2
      | tup l =>
        obtain ⟨p, vs, e, hr, rs⟩ := rep_tup (K := F.X.K) (S := S2) r3
        exact fin e (.inr (s2.hg.hp.sub.sqT hr)) rs w2
      | _ => exact w2.elim
    | _ => exact w1.elim)
theorem e_split {mo me : Res D} (ho : E F ρ Γ o mo) (he : E F ρ Γ e me) (hs : starEach [e] F.X.env = [(false, eval e F.X.env)] := by rfl)
    (hbase : attributeBase o "split" F.X.env (eval o F.X.env) = eval o F.X.env := by rfl) (hline : (apos.endLine == pos.line) = true := by rfl) :
    E F ρ Γ (.Call (.Attribute o "split" apos) [e] [] pos) (mo.bind fun a => (asS a).bind fun _ => me.bind fun l => D.split1 a l) := fun S H σ Q s w =>
  We.of (pe_split pe_We pe_We hs hbase hline) (ho.go s w fun a va S1 H1 u1 s1 r1 w1 => by
    cases a with
    | str a =>
      refine ⟨⟨a, rep_str_eq r1⟩, he.go s1 w1 fun l vl S2 H2 u2 s2 r2 w2 => ?_⟩
      cases l with
      | str b =>
        have w2 : (if (b.length == 0) = false ∧ a.length + 2 ≤ sizeLine then Res.ok (D.lst ((Txt.split a b).map D.str)) else Res.stuck).wp _ _ := w2
        by_cases h : (b.length == 0) = false ∧ a.length + 2 ≤ sizeLine
        · rw [if_pos h] at w2
          refine ⟨a, b, rep_str_eq r1, by rw [rep_str_eq r2], h.1, h.2, fun p hp => ?_⟩
          have sp := s2.hg.hp.sub.none hp
          exact w2 _ _ _ ((u1.trans u2).trans (Sub.ext S2 sp)) (s2.mk' (Sub.ext S2 sp) (s2.hg.share hp)) (rep_lst_new sp (reps_of_strs _))
        · rw [if_neg h] at w2; exact w2.elim
      | _ => exact w2.elim
    | _ => exact w1.elim)
theorem e_find {mo me : Res D} (ho : E F ρ Γ o mo) (he : E F ρ Γ e me) (hs : starEach [e] F.X.env = [(false, eval e F.X.env)] := by rfl)
    (hbase : attributeBase o "find" F.X.env (eval o F.X.env) = eval o F.X.env := by rfl) (hline : (apos.endLine == pos.line) = true := by rfl) :
    E F ρ Γ (.Call (.Attribute o "find" apos) [e] [] pos) (mo.bind fun a => (asS a).bind fun _ => me.bind fun l => D.find1 a l) := fun S H σ Q s w =>
  We.of (pe_m1 PySem.F.slot_str_find PySem.F.type_str_find mt_find pe_We pe_We hs hbase hline) (ho.go s w fun a va S1 H1 u1 s1 r1 w1 => by
    cases a with
    | str a =>
      refine ⟨⟨a, rep_str_eq r1⟩, he.go s1 w1 fun l vl S2 H2 u2 s2 r2 w2 => ?_⟩
      cases l with
      | str b => exact ⟨a, b, rep_str_eq r1, by rw [rep_str_eq r2], w2 _ S2 H2 (u1.trans u2) s2 rep_int⟩
      | _ => exact w2.elim
    | _ => exact w1.elim)
theorem e_starts {mo me : Res D} (ho : E F ρ Γ o mo) (he : E F ρ Γ e me) (hs : starEach [e] F.X.env = [(false, eval e F.X.env)] := by rfl)
    (hbase : attributeBase o "startswith" F.X.env (eval o F.X.env) = eval o F.X.env := by rfl) (hline : (apos.endLine == pos.line) = true := by rfl) :
    E F ρ Γ (.Call (.Attribute o "startswith" apos) [e] [] pos) (mo.bind fun a => (asS a).bind fun _ => me.bind fun l => D.starts1 a l) := fun S H σ Q s w =>
  We.of (pe_m1 PySem.F.slot_str_startswith PySem.F.type_str_startswith mt_startswith pe_We pe_We hs hbase hline) (ho.go s w fun a va S1 H1 u1 s1 r1 w1 => by
    cases a with
    | str a =>
      refine ⟨⟨a, rep_str_eq r1⟩, he.go s1 w1 fun l vl S2 H2 u2 s2 r2 w2 => ?_⟩
      cases l with
      | str b => exact ⟨a, b, rep_str_eq r1, by rw [rep_str_eq r2], w2 _ S2 H2 (u1.trans u2) s2 rep_bl⟩
      | _ => exact w2.elim
    | _ => exact w1.elim)
end
end RL

/-! RL35: x[i] += e; told tuples taken apart with a new list; lists lent; comprehensions that change cells. -/
namespace RL
open PySem L2
section
variable {X : Cx}
theorem get_list : PGet X (rIxL X.K) := by
  intro pins s σ H x y v u Q I rx ry h
  obtain ⟨p, xs, i, z, rfl, rfl, hq, he, q⟩ := h
  cases rx
  obtain ⟨t, rfl⟩ := ry
  obtain ⟨its, r, pl, hz⟩ := I.list hq
  obtain ⟨j, h1, h2, h3, h4, h5⟩ := atI_get he
  obtain ⟨w, ew, rw'⟩ := r.get h2
  have hl := r.length
  have hn := line63
  have fin : EP X pins σ Q w s := ⟨z, H, I, rw', q⟩
  by_cases h0 : 0 ≤ i
  · have hj : i.toNat = j := by
      rw [seqIndex_of h0 h5] at h1
      exact Option.some.inj h1
    exact wpAny_getItem_list pl.isList h0 (by omega) (by rw [hj]; simpa using ew) fin
  · have hj : (i + (its.toArray.size : Int)).toNat = j := by
      rw [seqIndex_neg (by omega) h4] at h1
      rw [List.size_toArray, ← hl]
      exact Option.some.inj h1
    exact wpAny_getItem_list_neg pl.isList (by omega) (by rw [List.size_toArray] <;> omega) (by omega) (by rw [hj]; simpa using ew) fin
end
section
variable {τ τ' β κ : Type} {F : FrS} {o : τ → Al → List Sl × Ga} {o' : τ' → Al → List Sl × Ga} {ob : β → Al → List Sl × Ga} {oc : κ → Al → Ga} {ρ : List Sl} {Γ : Ga} {rest : List Stmt} {ks : List (List Stmt)} {pos : Pos} {a b e : Expr} {ma mb me : Res D} {x : Str}
/-- an item of a list -/
def ixL (l : List D) (k : D) : Res D := match k with
  | .int i => .ofOpt (atI l i)
  | _ => .stuck
/-- x[b] op= e, x a list of one's own -/
theorem s_augI {i j : Nat} {q : Addr} {l : List D} {op : Operator} {ti : TIp} {f : D → D → Res D} {mr : List D → Res (Fl τ β κ)} {p2 p3 : Pos} (hs : ρ[i]? = some (.at q)) (hc : Γ[j]? = some (q, .lst l)) (hb : E F.toFr ρ Γ b mb) (he : E F.toFr ρ Γ e me)
    (ho : PIp F.X op ti) (hop : ∀ d e x y S H P R (Q : VK), rep F.X.K S d x → rep F.X.K S e y → (f d e).wp P R → (∀ r z, rep F.X.K S r z → P r → Q z H) → ti x y H Q)
    (hr : ∀ l', SJ F o ob oc rest ks ρ (Γ.set j (q, .lst l')) (mr l')) (ha : F.al ρ Γ)
    (hN : F.X.N[i]? = some x := by rfl) (hv : Vis F.X.env.scope x := by first | exact Or.inl rfl | exact Or.inr (Or.inl rfl) | exact Or.inr (Or.inr rfl))
    (h1 : (x == ("__debug__" : Str)) = false := by decide) (h2 : (x == ("__classdict__" : Str)) = false := by decide)
    (hst : ∀ ov iv new, augStore b ov iv new = (do holding [new, ov, iv] (setItem ov iv new); release [new, ov, iv] []; pure .next) := by intros; rfl) :
    SJ F o ob oc (.AugAssign (.Subscript (.Name x p2) b p3) op e pos :: rest) ks ρ Γ (mb.bind fun k => (ixL l k).bind fun d0 => me.bind fun d => (f d0 d).bind fun r => (setL l k r).bind mr) := fun S H σ D s w => by
  obtain ⟨ov, ev, hv'⟩ := s.sl.get hs
  have hv' : ov = some (.ref q) := hv'
  subst hv'
  refine WSs.of (pss_cons (ps_augS (pe_var hN hv h1 h2) pe_We get_list pe_We ho set_list hst) pss_W) ⟨_, ev, hb.at ha s w fun k v1 S1 H1 u1 s1 r1 w1 => ?_⟩
  obtain ⟨_, _, o1, h5, vs1, rfl, rs1⟩ := s1.hg.ga.ce q _ (mem_at hc)
  unfold ixL at w1
  split at w1
  · rename_i n
    cases q1 : atI l n with
    | none => rw [q1] at w1; exact w1.elim
    | some d0 =>
      rw [q1] at w1
      obtain ⟨v0, e0, r0⟩ : ∃ v0, atI vs1 n = some v0 ∧ rep F.X.K S1 d0 v0 := by
        unfold atI at q1 ⊢
        rw [reps_len rs1]
        cases q2 : ixN l.length n with
        | none => rw [q2] at q1; cases q1
        | some m =>
          rw [q2] at q1
          exact reps_get rs1 q1
      have w1 : (me.bind fun d => (f d0 d).bind fun r => (setL l (.int n) r).bind mr).wp _ _ := w1
      refine ⟨q, vs1, n, v0, rfl, rep_int_eq r1, SqL.of h5, e0, he.at ha s1 w1 fun d v S2 H2 u2 s2 r2 w2 => ?_⟩
      refine hop d0 d v0 v S2 H2 _ _ _ (rep_mono u2 _ _ r0) r2 (Res.wp_bind w2) fun r z rz w3 => ?_
      obtain ⟨_, _, o2, h6, vs2, rfl, rs2⟩ := s2.hg.ga.ce q _ (mem_at hc)
      have hl := reps_len rs2
      unfold setL at w3
      dsimp only at w3
      split at w3
      · rename_i m e1
        refine ⟨q, vs2, n, m, rfl, rep_int_eq r1, h6, by rw [hl]; exact e1, ?_⟩
        exact (hr _).run ⟨s2.hg.write hc ⟨_, rfl, reps_set m rs2 rz⟩, s2.sl⟩ (u1.trans u2) w3
      · exact w3.elim
  · exact w1.elim
end
mutual
def D.noL : D → Bool
  | .non => true
  | .bl _ => true
  | .int _ => true
  | .str _ => true
  | .tup l => D.noLs l
  | .dic l => D.noLk l
  | .lst _ => false
  | .scr _ => false
  | .obj _ _ => false
def D.noLs : List D → Bool
  | [] => true
  | d :: l => D.noL d && D.noLs l
def D.noLk : List (Key × D) → Bool
  | [] => true
  | (_, d) :: l => D.noL d && D.noLk l
end
mutual
theorem rep_noL {K : PySem.W.Frag} {S : Hp} {q : Addr} {vs : List V} (h : S q = some (.lst vs)) : ∀ (d : D) (v : V), d.noL = true → rep K S d v → rep K (del S q) d v
  | .non, _, _, r => by unfold rep at r ⊢; exact r
  | .bl _, _, _, r => by unfold rep at r ⊢; exact r
  | .int _, _, _, r => by unfold rep at r ⊢; exact r
  | .str _, _, _, r => by unfold rep at r ⊢; exact r
  | .tup l, v, n, r => by
    unfold rep at r ⊢
    unfold D.noL at n
    obtain ⟨p, ws, e, hq, rs⟩ := r
    refine ⟨p, ws, e, ?_, reps_noL h l ws n rs⟩
    rcases hq with hq | hq
    · refine .inl ?_
      rcases hq with hq | ⟨o, hq⟩
      · refine .inl ?_
        rw [del_ne]
        · exact hq
        · rintro rfl; rw [h] at hq; cases hq
      · refine .inr ⟨o, ?_⟩
        rw [del_ne]
        · exact hq
        · rintro rfl; rw [h] at hq; cases hq
    · exact .inr hq
  | .dic l, v, n, r => by
    unfold rep at r ⊢
    unfold D.noL at n
    obtain ⟨p, ws, e, hq, rs⟩ := r
    refine ⟨p, ws, e, ?_, repk_noL h l ws n rs⟩
    rw [del_ne]
    · exact hq
    · rintro rfl; rw [h] at hq; cases hq
  | .lst _, _, n, _ => by unfold D.noL at n; cases n
  | .scr _, _, n, _ => by unfold D.noL at n; cases n
  | .obj _ _, _, n, _ => by unfold D.noL at n; cases n
theorem reps_noL {K : PySem.W.Frag} {S : Hp} {q : Addr} {vs : List V} (h : S q = some (.lst vs)) : ∀ (l : List D) (ws : List V), D.noLs l = true → reps K S l ws → reps K (del S q) l ws
  | [], _, _, r => by unfold reps at r ⊢; exact r
  | d :: l, ws, n, r => by
    unfold reps at r ⊢
    unfold D.noLs at n
    rw [Bool.and_eq_true] at n
    obtain ⟨v, t, e, r1, rs⟩ := r
    exact ⟨v, t, e, rep_noL h d v n.1 r1, reps_noL h l t n.2 rs⟩
theorem repk_noL {K : PySem.W.Frag} {S : Hp} {q : Addr} {vs : List V} (h : S q = some (.lst vs)) : ∀ (l : List (Key × D)) (ws : List (Key × V)), D.noLk l = true → repk K S l ws → repk K (del S q) l ws
  | [], _, _, r => by unfold repk at r ⊢; exact r
  | (k, d) :: l, ws, n, r => by
    unfold repk at r ⊢
    unfold D.noLk at n
    rw [Bool.and_eq_true] at n
    obtain ⟨v, t, e, r1, rs⟩ := r
    exact ⟨v, t, e, rep_noL h d v n.1 r1, repk_noL h l t n.2 rs⟩
end
def noLD (d : D) : Res D := if d.noL = true then .ok d else .stuck
def flatsD (d : D) : Res D := match d with
  | .lst l => if l.all D.flat = true then .ok (.lst l) else .stuck
  | _ => .stuck
theorem reps_flats {K : PySem.W.Frag} {S S' : Hp} : ∀ {l : List D} {vs : List V}, l.all D.flat = true → reps K S l vs → reps K S' l vs
  | [], vs, _, r => by unfold reps at r; subst r; exact reps_nil
  | d :: l, vs, h, r => by
    rw [List.all_cons, Bool.and_eq_true] at h
    unfold reps at r
    obtain ⟨v, t, rfl, r1, rs⟩ := r
    refine reps_cons ?_ (reps_flats h.2 rs)
    rw [rep_flat h.1 r1]
    cases d <;> first | (cases h.1; done) | (unfold rep; rfl)
section
variable {F : Fr} {ρ : List Sl} {Γ : Ga} {a e : Expr} {pos p : Pos} {ma : Res D} {es : List Expr} {ms : Res (List D)} {x : Str} {k j : Nat} {q : Addr} {G : List D → Res D} {l0 : List D}
/-- a list lent to a def that tells no list -/
theorem e_callLN (j : Nat) (hc : Γ[j]? = some (q, .lst l0)) (T : F.Kn x k G) (hr : Room k F.X.A) (h : EaL F ρ Γ q (a :: es) ms) (hg : Gl F.X x := by rfl)
    (hdb : (x == ("__debug__" : Str)) = false := by decide) (he : starEach (a :: es) F.X.env = (false, eval a F.X.env) :: starEach es F.X.env := by rfl) (hpl : (backTo pos (starEach es F.X.env)).any (·.1) = false := by rfl) :
    E F ρ Γ (.Call (.Name x p) (a :: es) [] pos) (ms.bind fun ds => (G ds).bind noLD) := fun S H σ Q s w => by
  obtain ⟨f, fd, ps, Fn, hm, hk, hb⟩ := T
  refine We.of (pe_callS (E := WE F.W) Fn hr hg hm hk hb (fun σ => passAt F.tk σ) pa_Wa hdb he hpl) (h S H σ _ s (Res.wp_mono (Res.wp_bind w) (fun ds w1 us S1 H1 u1 s1 r1 => ?_) fun _ z => z))
  obtain ⟨hq, _, o, ho, vs, rfl, _⟩ := s1.hg.ga.ce q _ (mem_at hc)
  have uS : Sub S1 (upd S1 q (.lst vs)) := Sub.ext S1 hq
  refine ⟨upd S1 q (.lst vs), ds, fun a u z => ?_, r1 _ _ uS ho upd_same, Res.wp_mono (Res.wp_bind w1) (fun d z v S' H' e rv => ?_) fun k z S' H' e => ?_⟩
  · by_cases y : a = q
    · subst y; rw [upd_same] at z; cases z; exact ho
    · rw [upd_ne y] at z; exact s1.hg.hp.sub a u z
  · obtain ⟨up, g2⟩ := lent s1.hg hc ho e
    unfold noLD at z
    split at z
    · rename_i hf
      exact z v (del S' q) H' (u1.trans up) (s1.mk' up g2) (rep_noL (e.up q _ upd_same) d v hf rv)
    · exact z.elim
  · obtain ⟨up, g2⟩ := lent s1.hg hc ho e
    exact z _ _ (s1.mk' up g2)
/-- a list lent to a def that tells a new list of flat things -/
theorem e_callLF (j : Nat) (hc : Γ[j]? = some (q, .lst l0)) (T : F.KnF x k G) (hr : Room k F.X.A) (h : EaL F ρ Γ q (a :: es) ms) (hg : Gl F.X x := by rfl)
    (hdb : (x == ("__debug__" : Str)) = false := by decide) (he : starEach (a :: es) F.X.env = (false, eval a F.X.env) :: starEach es F.X.env := by rfl) (hpl : (backTo pos (starEach es F.X.env)).any (·.1) = false := by rfl) :
    E F ρ Γ (.Call (.Name x p) (a :: es) [] pos) (ms.bind fun ds => (G ds).bind flatsD) := fun S H σ Q s w => by
  obtain ⟨f, fd, ps, Fn, hm, hk, hb⟩ := T
  refine We.of (pe_callS (E := WE F.W) Fn hr hg hm hk hb (fun σ => passAt F.tk σ) pa_Wa hdb he hpl) (h S H σ _ s (Res.wp_mono (Res.wp_bind w) (fun ds w1 us S1 H1 u1 s1 r1 => ?_) fun _ z => z))
  obtain ⟨hq, _, o, ho, vs, rfl, _⟩ := s1.hg.ga.ce q _ (mem_at hc)
  have uS : Sub S1 (upd S1 q (.lst vs)) := Sub.ext S1 hq
  refine ⟨upd S1 q (.lst vs), ds, fun a u z => ?_, r1 _ _ uS ho upd_same, Res.wp_mono (Res.wp_bind w1) (fun d z v S' H' e rv fr => ?_) fun k z S' H' e => ?_⟩
  · by_cases y : a = q
    · subst y; rw [upd_same] at z; cases z; exact ho
    · rw [upd_ne y] at z; exact s1.hg.hp.sub a u z
  · obtain ⟨up, g2⟩ := lent s1.hg hc ho e
    unfold flatsD at z
    split at z
    · rename_i l
      split at z
      · rename_i hf
        obtain ⟨t, rfl, h0, _⟩ := fr (.lst l) rfl
        have h0 : H1 t = none := h0
        refine z _ (del S' q) H' (u1.trans up) (s1.mk' up g2) ?_
        unfold rep at rv ⊢
        obtain ⟨p', ws, e1, e2, rs⟩ := rv
        cases e1
        refine ⟨t, ws, rfl, ?_, reps_flats hf rs⟩
        rw [del_ne]
        · exact e2
        · rintro rfl
          have z0 := ho.symm.trans h0
          cases z0
      · exact z.elim
    · exact z.elim
  · obtain ⟨up, g2⟩ := lent s1.hg hc ho e
    exact z _ _ (s1.mk' up g2)
end
/-! told tuples taken apart -/
def orP {α : Type} (m : List D → D → Res α) : D → Res α
  | .tup [.lst l, b] => m l b
  | _ => .stuck
section
variable {τ τ' β κ : Type} {F : FrS} {o : τ → Al → List Sl × Ga} {ob : β → Al → List Sl × Ga} {oc : κ → Al → Ga} {ρ : List Sl} {Γ : Ga} {rest : List Stmt} {ks : List (List Stmt)} {pos p : Pos} {i i2 k : Nat} {a e : Expr} {es : List Expr} {x y fx : Str} {ms : Res (List D)} {G : List D → Res D}
/-- x, y = f(..), f tells a tuple with a new list ahead -/
theorem s_tupT {m1 : List D → D → Res (Fl τ β κ)} {kt : Nat} {px py pt cpos : Pos} (T : F.toFr.KnT 0 fx k G) (hr : Room k F.X.A) (h : Ea F.toFr ρ Γ (a :: es) ms)
    (h1 : ∀ l b q, q ∉ F.en.O → SJ F o ob oc rest ks ((ρ.set i (.at q)).set i2 (.is b)) ((q, .lst l) :: Γ) (m1 l b)) (hN : F.X.N.Nodup) (hi : F.X.N[i]? = some x) (hi2 : F.X.N[i2]? = some y) (hx : Loc F.X.env.scope x) (hy : Loc F.X.env.scope y) (ha : F.al ρ Γ) (hc : F.X.calm = true)
    (hs : swapsWithSole [.Tuple [.Name x px, .Name y py] kt pt] (.Call (.Name fx p) (a :: es) [] cpos) pos.line F.X.env = pure false := by rfl) (hw : swappedStores [.Tuple [.Name x px, .Name y py] kt pt] (.Call (.Name fx p) (a :: es) [] cpos) F.X.env = pure none := by rfl)
    (hA : (assignEach [.Tuple [.Name x px, .Name y py] kt pt] F.X.env).map (·.2) = [assign (.Tuple [.Name x px, .Name y py] kt pt) F.X.env] := by rfl)
    (hf : F.X.fn x = true ∨ F.X.env.scope.names.lookup x = some .local := by first | exact .inl rfl | exact .inr rfl) (hf2 : F.X.fn y = true ∨ F.X.env.scope.names.lookup y = some .local := by first | exact .inl rfl | exact .inr rfl)
    (hn : (assignEach [.Name x px, .Name y py] F.X.env).length = 2 := by rfl) (hst : (assignEach [.Name x px, .Name y py] F.X.env).findIdx? (·.1) = none := by rfl)
    (hs1 : (assignEach (.Name x px :: [.Name y py]) F.X.env).map (·.2) = assign (.Name x px) F.X.env :: (assignEach [.Name y py] F.X.env).map (·.2) := by rfl)
    (hs2 : (assignEach (.Name y py :: []) F.X.env).map (·.2) = assign (.Name y py) F.X.env :: (assignEach [] F.X.env).map (·.2) := by rfl)
    (hg : Gl F.X fx := by rfl) (hdb : (fx == ("__debug__" : Str)) = false := by decide)
    (he : starEach (a :: es) F.X.env = (false, eval a F.X.env) :: starEach es F.X.env := by rfl) (hpl : (backTo cpos (starEach es F.X.env)).any (·.1) = false := by rfl) :
    SJ F o ob oc (.Assign [.Tuple [.Name x px, .Name y py] kt pt] (.Call (.Name fx p) (a :: es) [] cpos) pos :: rest) ks ρ Γ (ms.bind fun ds => (G ds).bind (orP m1)) := fun S H σ D s w => by
  obtain ⟨f, fd, ps, Fn, hm, hk, hb⟩ := T
  refine WSs.of (pss_cons (ps_asg (pe_callS (E := WE F.W) Fn hr hg hm hk hb (fun σ => passAt F.tk σ) pa_Wa hdb he hpl) (pg_tup (n := 2) hc (pgs_cons (pg_name hN hi hx hf) (pgs_cons (pg_name hN hi2 hy hf2) pgs_nil hs2) hs1) hn hst) hs hw hA) pss_W) ?_
  refine h S H σ _ s (Res.wp_mono (Res.wp_bind w) (fun ds w1 vs S1 H1 u1 s1 r1 => ?_) fun _ z => xw_of ha z)
  refine ⟨S1, ds, s1.hg.hp.sub, r1, Res.wp_mono (Res.wp_bind w1) (fun d z v S' H' e rv fr => ?_) fun c z S' H' e => xw_of ha z S' H' (s1.mk' e.up (s1.hg.ext e))⟩
  unfold orP at z
  split at z
  · obtain ⟨t, us, q, S2, rfl, n, u2, h3, h4, s2⟩ := ownT_of (i := 0) s1 e fr rfl
    obtain ⟨us', rfl, v1, t1, rfl, rv1, e4⟩ := h4
    have e4 : t1 = [] := e4
    subst e4
    refine ⟨t, _, rfl, s2.hg.hp.sub.sqT h3, rfl, .ref q, [v1], rfl, v1, [], rfl, rfl, ?_⟩
    exact (h1 _ _ q n).run ⟨s2.hg, (s2.sl.set i (s := .at q) (o := some (.ref q)) rfl).set i2 ⟨v1, rfl, rv1⟩⟩ (u1.trans u2) z
  · exact z.elim
/-- x = f(..)[0], f tells a tuple with a new list ahead -/
theorem s_setT0 {m1 : List D → D → Res (Fl τ β κ)} {pos' cpos spos kp : Pos} {kn : Nat} (T : F.toFr.KnT 0 fx k G) (hr : Room k F.X.A) (h : Ea F.toFr ρ Γ (a :: es) ms)
    (h1 : ∀ l b q, q ∉ F.en.O → SJ F o ob oc rest ks (ρ.set i (.at q)) ((q, .lst l) :: Γ) (m1 l b)) (hN : F.X.N.Nodup) (hi : F.X.N[i]? = some x) (hx : Loc F.X.env.scope x) (ha : F.al ρ Γ)
    (hs : swapsWith (.Subscript (.Call (.Name fx p) (a :: es) [] cpos) (.Constant (.int 0) kn kp) spos) (some (.Name x pos')) pos.line F.X.env = pure false := by rfl) (hf : F.X.fn x = true ∨ F.X.env.scope.names.lookup x = some .local := by first | exact .inl rfl | exact .inr rfl)
    (hg : Gl F.X fx := by rfl) (hdb : (fx == ("__debug__" : Str)) = false := by decide)
    (he : starEach (a :: es) F.X.env = (false, eval a F.X.env) :: starEach es F.X.env := by rfl) (hpl : (backTo cpos (starEach es F.X.env)).any (·.1) = false := by rfl) (hpi : PlainIx (.Constant (.int 0) kn kp) := by exact fun _ _ => rfl) :
    SJ F o ob oc (.Assign [.Name x pos'] (.Subscript (.Call (.Name fx p) (a :: es) [] cpos) (.Constant (.int 0) kn kp) spos) pos :: rest) ks ρ Γ (ms.bind fun ds => (G ds).bind (orP m1)) := fun S H σ D s w => by
  obtain ⟨f, fd, ps, Fn, hm, hk, hb⟩ := T
  refine WSs.of (pss_cons (ps_set hN hi hx (pe_ix ix_tup (pe_callS (E := WE F.W) Fn hr hg hm hk hb (fun σ => passAt F.tk σ) pa_Wa hdb he hpl) pe_int hpi) hs hf) pss_W) ?_
  refine h S H σ _ s (Res.wp_mono (Res.wp_bind w) (fun ds w1 vs S1 H1 u1 s1 r1 => ?_) fun _ z => xw_of ha z)
  refine ⟨S1, ds, s1.hg.hp.sub, r1, Res.wp_mono (Res.wp_bind w1) (fun d z v S' H' e rv fr => ?_) fun c z S' H' e => xw_of ha z S' H' (s1.mk' e.up (s1.hg.ext e))⟩
  unfold orP at z
  split at z
  · obtain ⟨t, us, q, S2, rfl, n, u2, h3, h4, s2⟩ := ownT_of (i := 0) s1 e fr rfl
    obtain ⟨us', rfl, _⟩ := h4
    refine ⟨t, _, 0, .ref q, rfl, rfl, s2.hg.hp.sub.sqT h3, atI_nat (j := 0) rfl, ?_⟩
    exact (h1 _ _ q n).run ⟨s2.hg, s2.sl.set i rfl⟩ (u1.trans u2) z
  · exact z.elim
end
end RL

/-! RL36: a cell told; comprehensions that change cells. -/
namespace RL
open PySem L2
/-- a cell of one's own, shared from now on, is told as a new one -/
theorem Hg.giveC {K : PySem.W.Frag} {en : En} {S H : Hp} {Γ : Ga} {j : Nat} {q : Addr} {c : Ce} {d : D} (g : Hg K en S H Γ) (h : Γ[j]? = some (q, c)) (hn : q ∉ en.O) (hd : ceF d = some c) :
    ∃ o, H q = some o ∧ S q = none ∧ en.H0 q = none ∧ rep K (upd S q o) d (.ref q) ∧ q ∉ (Γ.eraseIdx j).map (·.1) ∧ ceOk K S c o ∧ Hg K en (upd S q o) H (Γ.eraseIdx j) := by
  obtain ⟨h1, h2, o, h3, hc⟩ := g.ga.ce q _ (mem_at h)
  have h0 : en.H0 q = none := h2.resolve_left hn
  have u : Sub S (upd S q o) := Sub.ext S h1
  have ne : ∀ b c, (b, c) ∈ Γ.eraseIdx j → b ≠ q := fun b c hm z => by
    subst z
    obtain ⟨m, hj, hje⟩ := List.mem_eraseIdx_iff_getElem?.mp hm
    have n1 : (Γ.map (·.1))[j]? = some b := by rw [List.getElem?_map, h]; rfl
    have n2 : (Γ.map (·.1))[m]? = some b := by rw [List.getElem?_map, hje]; rfl
    obtain ⟨l1, e1⟩ := List.getElem?_eq_some_iff.mp n1
    obtain ⟨l2, e2⟩ := List.getElem?_eq_some_iff.mp n2
    exact absurd ((List.getElem_inj g.ga.nd).mp (e2.trans e1.symm)) hj
  have hr : rep K (upd S q o) d (.ref q) := by
    cases d with
    | lst l =>
      cases Option.some.inj hd
      obtain ⟨vs, rfl, rs⟩ := hc
      exact rep_lst_new h1 rs
    | dic l =>
      cases Option.some.inj hd
      obtain ⟨vs, rfl, rs⟩ := hc
      unfold rep
      exact ⟨q, vs, rfl, upd_same, repk_mono u _ _ rs⟩
    | _ => cases hd
  refine ⟨o, h3, h1, h0, hr, fun hm => ?_, hc, ⟨⟨fun a v e => ?_, g.hp.keep, g.hp.there, g.hp.oh, g.hp.s0.trans u, fun a v e => ?_⟩, ⟨fun b c2 hm => ?_, ?_⟩⟩⟩
  · obtain ⟨⟨b, c⟩, hb, e⟩ := List.mem_map.mp hm
    exact ne b c hb e
  · by_cases z : a = q
    · subst z; rw [upd_same] at e; cases e; exact h3
    · rw [upd_ne z] at e; exact g.hp.sub a v e
  · by_cases z : a = q
    · subst z; exact .inr h0
    · rw [upd_ne z] at e; exact g.hp.fresh a v e
  · obtain ⟨k1, k2, v, k3, k4⟩ := g.ga.ce b c2 (List.mem_of_mem_eraseIdx hm)
    exact ⟨by rw [upd_ne (ne b c2 hm)]; exact k1, k2, v, k3, k4.mono u⟩
  · exact ((List.eraseIdx_sublist Γ j).map (fun x : Addr × Ce => x.1)).nodup g.ga.nd
section
variable {τ τ' β κ : Type} {F : FrS} {o : τ → Al → List Sl × Ga} {ob : β → Al → List Sl × Ga} {oc : κ → Al → Ga} {ρ : List Sl} {Γ : Ga} {rest : List Stmt} {ks : List (List Stmt)} {pos p : Pos} {a e : Expr} {q : Addr} {c : Ce} {d : D}
/-- return a, a cell, new since the entry -/
theorem s_retC {cc : κ} (α : Al) (j : Nat) (ho : At F.toFr ρ Γ e q) (hc : Γ[j]? = some (q, c)) (hn : q ∉ F.en.O) (hd : ceF d = some c) (f : Fewer (Γ.eraseIdx j) (oc cc α))
    (hq : ∀ d v S H G, FrR F.X.K F.en d v S H G → F.rt d v S H G := by exact fun _ _ _ _ _ z => z) :
    SJ F o ob oc (.Return (some e) pos :: rest) ks ρ Γ (.ok (.rt d cc)) := fun S H σ D s w => by
  refine WSs.of (pss_cons (ps_ret pe_We) (pss_never (sts := rest))) (ho S H σ _ s ?_)
  obtain ⟨ob, h3, h1, h0, hr, hm, hco, g⟩ := s.hg.giveC hc hn hd
  refine w α (.ref q) (upd S q ob) H (Sub.ext S h1) ⟨g.hp, g.ga.fewer f⟩ hr (hq _ _ _ _ _ fun c' el => ?_)
  rw [hd] at el
  cases Option.some.inj el
  refine ⟨q, rfl, h0, ?_⟩
  rw [del_upd h1]
  exact Hg.add ⟨s.hg.hp, (s.hg.ga.fewer (List.eraseIdx_sublist Γ j)).fewer f⟩ h1 h0 h3 hco fun hm' => hm ((f.map (fun x : Addr × Ce => x.1)).subset hm')
end
/-! ### comprehensions that change cells -/
def compM {α γ : Type} : List α → List D → γ → (α → γ → Res (Option D × γ)) → Res (List D × γ)
  | [], acc, c, _ => .ok (acc, c)
  | d :: r, acc, c, f => match f d c with
    | .ok (some x, c') => if acc.length < sizeLine then compM r (acc ++ [x]) c' f else .stuck
    | .ok (none, c') => compM r acc c' f
    | .exc _ => .stuck
    | .stuck => .stuck
theorem wp_compM {α γ : Type} {d : α} {r : List α} {acc : List D} {c : γ} {g : α → γ → Res (Option D × γ)} {P : List D × γ → Prop} {R : Str → Prop} (h : (compM (d :: r) acc c g).wp P R) :
    (g d c).wp (fun o => match o with
      | (some x, c') => acc.length < sizeLine ∧ (compM r (acc ++ [x]) c' g).wp P R
      | (none, c') => (compM r acc c' g).wp P R) fun _ => False := by
  unfold compM at h
  cases q : g d c with
  | ok o =>
    rw [q] at h
    obtain ⟨o, c'⟩ := o
    cases o with
    | none => exact h
    | some x =>
      have h : (if acc.length < sizeLine then compM r (acc ++ [x]) c' g else .stuck).wp P R := h
      split at h
      · rename_i hl; exact ⟨hl, h⟩
      · exact h.elim
  | exc k => rw [q] at h; exact h
  | stuck => rw [q] at h; exact h
def elMM {γ : Type} (f : D → Res (List D)) (mt : List D → γ → Res (Bool × γ)) (me : List D → γ → Res (D × γ)) (d : D) (c : γ) : Res (Option D × γ) :=
  (f d).bind fun xs => (mt xs c).bind fun r => if r.1 = true then (me xs r.2).bind fun y => .ok (some y.1, y.2) else .ok (none, r.2)
section
variable {F : Fr} {ρ : List Sl} {tg iter elt : Expr} {ifs : List Expr} {scope : Scope} {own : List (Str × Nat)} {pos : Pos} {mi : Res (List D)} {f : D → Res (List D)} {is : List Nat} {γ : Type} {g : γ → Al → Ga} {c0 : γ} {α0 : Al}
  {mt : List D → γ → Res (Bool × γ)} {me : List D → γ → Res (D × γ)}
def TsM (F : Fr) (ρ : List Sl) (g : γ → Al → Ga) (c : γ) (α : Al) (ifs : List Expr) (m : Res (Bool × γ)) : Prop := (ifs = [] ∧ m = .ok (true, c)) ∨ ∃ e, ifs = [e] ∧ TM F ρ g c α e m
theorem lc_WM {S H σ} {Q : VK} (hi : Ei F ρ (g c0 α0) tg iter mi) (s : StOk F.X.K F.en S H σ ρ (g c0 α0))
    (ht : ∀ s H0 C cl fp, Tj (F.b s H0 scope C cl fp) tg f is) (hts : ∀ xs s H0 C cl fp q acc c α, TsM (F.b s H0 scope C cl fp) (setAll (wipeL ρ (own.map (·.2))) is xs) (fun c α => (q, .lst acc) :: g c α) c α ifs (mt xs c))
    (hel : ∀ xs s H0 C cl fp q acc c α, EM (F.b s H0 scope C cl fp) (setAll (wipeL ρ (own.map (·.2))) is xs) (fun c α => (q, .lst acc) :: g c α) c α elt (me xs c))
    (hio : ∀ i ∈ is, i ∈ own.map (·.2))
    (w : (mi.bind fun ds => compM ds [] c0 (elMM f mt me)).wp (fun r => ∀ α p S' H', p ∉ F.en.O → Sub S S' → StOk F.X.K F.en S' H' σ ρ ((p, .lst r.1) :: g r.2 α) → Q (.ref p) H') (Xw F ρ (g c0 α0) σ)) :
    ∃ wi, PI F.X tg iter wi ∧ tLc wi (gB F.X scope tg) (tsB F.X scope ifs) (eB F.X scope elt) (own.map (·.2)) σ H Q := by
  refine hi S H σ _ s (Res.wp_mono (Res.wp_bind w) (fun ds w1 J G Y S1 H1 u1 s1 W gG yY q hq => ?_) fun _ z => z)
  have n := s1.hg.no hq
  refine lc_it W (fun i H => ∃ l c α S2, Sub S1 S2 ∧ StOk F.X.K F.en S2 H σ ρ ((q, .lst l) :: g c α) ∧ (compM (ds.drop i) l c (elMM f mt me)).wp (fun r => ∀ α p S' H', p ∉ F.en.O → Sub S S' → StOk F.X.K F.en S' H' σ ρ ((p, .lst r.1) :: g r.2 α) → Q (.ref p) H') (Xw F ρ (g c0 α0) σ))
    ⟨[], c0, α0, S1, Sub.refl S1, s1.own hq ⟨[], rfl, reps_nil⟩, w1⟩ (fun i H _ ⟨l, c, α, S2, u2, s2, _⟩ => gG S2 H _ u2 s2.hg) ?_ ?_
  · rintro i x H2 H3 hi2 ⟨l, c, α, S2, u2, s2, w2⟩ y
    obtain ⟨S3, d, u3, g3, hd, rd⟩ := yY i x S2 H2 H3 _ hi2 u2 s2.hg y
    have s3 := s2.mk' u3 g3
    have sb : StOk F.X.K F.en S3 H3 (wipe σ (own.map (·.2))) (wipeL ρ (own.map (·.2))) ((q, .lst l) :: g c α) := ⟨s3.hg, wipeL_ok s3.sl _⟩
    have e : ds.drop i = d :: ds.drop (i + 1) := by
      obtain ⟨h1, h2⟩ := List.getElem?_eq_some_iff.mp hd
      rw [List.drop_eq_getElem_cons h1, h2]
    rw [e] at w2
    intro s' H0 C cl fp
    refine ht s' H0 C cl fp S3 H3 _ x d _ _ _ (fun _ => False) sb rd (Res.wp_mono (Res.wp_bind (wp_compM w2)) (fun xs w4 us s4 => ⟨by rw [wipe_setV _ is us _ hio, wipe_wipe], ?_⟩) fun _ z => z)
    have w5 := Res.wp_bind w4
    have fin : ∀ (b : Bool) (c1 : γ) (α1 : Al) (S5 : Hp) (H5 : Hp), Sub S3 S5 → StOk F.X.K F.en S5 H5 (setV (wipe σ (own.map (·.2))) is us) (setAll (wipeL ρ (own.map (·.2))) is xs) ((q, .lst l) :: g c1 α1) →
        ((if b = true then (me xs c1).bind fun y => .ok (some y.1, y.2) else .ok (none, c1) : Res (Option D × γ)).wp (fun o => match o with
          | (some x, c') => l.length < sizeLine ∧ (compM (ds.drop (i + 1)) (l ++ [x]) c' (elMM f mt me)).wp (fun r => ∀ α p S' H', p ∉ F.en.O → Sub S S' → StOk F.X.K F.en S' H' σ ρ ((p, .lst r.1) :: g r.2 α) → Q (.ref p) H') (Xw F ρ (g c0 α0) σ)
          | (none, c') => (compM (ds.drop (i + 1)) l c' (elMM f mt me)).wp (fun r => ∀ α p S' H', p ∉ F.en.O → Sub S S' → StOk F.X.K F.en S' H' σ ρ ((p, .lst r.1) :: g r.2 α) → Q (.ref p) H') (Xw F ρ (g c0 α0) σ)) fun _ => False) →
        if b = true then eB F.X scope elt (setV (wipe σ (own.map (·.2))) is us) H5 fun y H4 => ∃ acc, H4 q = some (.lst acc) ∧ acc.length < sizeLine ∧
            (fun i H => ∃ l c α S2, Sub S1 S2 ∧ StOk F.X.K F.en S2 H σ ρ ((q, .lst l) :: g c α) ∧ (compM (ds.drop i) l c (elMM f mt me)).wp (fun r => ∀ α p S' H', p ∉ F.en.O → Sub S S' → StOk F.X.K F.en S' H' σ ρ ((p, .lst r.1) :: g r.2 α) → Q (.ref p) H') (Xw F ρ (g c0 α0) σ)) (i + 1) (upd H4 q (.lst (acc ++ [y])))
          else (fun i H => ∃ l c α S2, Sub S1 S2 ∧ StOk F.X.K F.en S2 H σ ρ ((q, .lst l) :: g c α) ∧ (compM (ds.drop i) l c (elMM f mt me)).wp (fun r => ∀ α p S' H', p ∉ F.en.O → Sub S S' → StOk F.X.K F.en S' H' σ ρ ((p, .lst r.1) :: g r.2 α) → Q (.ref p) H') (Xw F ρ (g c0 α0) σ)) (i + 1) H5 := fun b c1 α1 S5 H5 u5 s5 w6 => by
      have back : ∀ (S6 H6 : Hp) (l' : List D) (c' : γ) (α' : Al), Sub S3 S6 → Hg F.X.K F.en S6 H6 ((q, .lst l') :: g c' α') → StOk F.X.K F.en S6 H6 σ ρ ((q, .lst l') :: g c' α') := fun S6 H6 l' c' α' u6 g6 => ⟨g6, s3.sl.mono u6⟩
      cases b with
      | false =>
        rw [if_neg Bool.false_ne_true]
        exact ⟨l, c1, α1, S5, u2.trans (u3.trans u5), back S5 H5 l c1 α1 u5 s5.hg, w6⟩
      | true =>
        rw [if_pos rfl]
        intro s7 H7 C7 cl7 fp7
        refine hel xs s7 H7 C7 cl7 fp7 q l c1 α1 S5 H5 _ _ s5 (Res.wp_mono (Res.wp_bind w6) (fun y w7 α8 v S8 H8 u8 s8 r8 => ?_) fun _ z => z.elim)
        obtain ⟨hl, w8⟩ := w7
        obtain ⟨_, _, o1, h5, vs1, rfl, rs1⟩ := s8.hg.ga.ce q _ List.mem_cons_self
        refine ⟨vs1, h5, by rw [reps_len rs1]; exact hl, l ++ [y.1], y.2, α8, S8, u2.trans (u3.trans (u5.trans u8)), ?_, w8⟩
        exact back S8 _ _ _ _ (u5.trans u8) (s8.hg.write (i := 0) (c' := .lst (l ++ [y.1])) rfl ⟨_, rfl, reps_app rs1 (reps_one r8)⟩)
    cases ifs with
    | nil =>
      rcases hts xs s' H0 C cl fp q l c α with ⟨_, e2⟩ | ⟨c, e2, _⟩
      · rw [e2] at w5
        exact fin true c α S3 H3 (Sub.refl S3) s4 w5
      · cases e2
    | cons c2 r =>
      intro s7 H7 C7 cl7 fp7
      rcases hts xs s7 H7 C7 cl7 fp7 q l c α with ⟨e1, _⟩ | ⟨c', e1, ht'⟩
      · cases e1
      · cases e1
        exact ht' S3 H3 _ _ s4 (Res.wp_mono w5 (fun b w6 α5 S5 H5 u5 s5 => fin b.1 b.2 α5 S5 H5 u5 s5 w6) fun _ z => z.elim)
  · rintro H2 ⟨l, c, α, S2, u2, s2, w2⟩
    rw [List.drop_length] at w2
    exact w2 α q S2 H2 n (u1.trans u2) s2
/-- a new cell, cells changed beside -/
def EFM (F : Fr) (ρ : List Sl) (g : γ → Al → Ga) (c : γ) (α : Al) (e : Expr) (m : Res (List D × γ)) : Prop := ∀ S H σ Q, StOk F.X.K F.en S H σ ρ (g c α) →
  m.wp (fun r => ∀ α p S' H', p ∉ F.en.O → Sub S S' → StOk F.X.K F.en S' H' σ ρ ((p, .lst r.1) :: g r.2 α) → Q (.ref p) H') (Xw F ρ (g c α) σ) → We F.X e σ H Q
theorem efm_lc (hc : F.X.calm = true) (hN : F.X.N.Nodup) (ok : BlkOk F.X.N F.X.env.scope scope own) (hi : Ei F ρ (g c0 α0) tg iter mi)
    (ht : ∀ s H0 C cl fp, Tj (F.b s H0 scope C cl fp) tg f is) (hts : ∀ xs s H0 C cl fp q acc c α, TsM (F.b s H0 scope C cl fp) (setAll (wipeL ρ (own.map (·.2))) is xs) (fun c α => (q, .lst acc) :: g c α) c α ifs (mt xs c))
    (hel : ∀ xs s H0 C cl fp q acc c α, EM (F.b s H0 scope C cl fp) (setAll (wipeL ρ (own.map (·.2))) is xs) (fun c α => (q, .lst acc) :: g c α) c α elt (me xs c)) (hio : ∀ i ∈ is, i ∈ own.map (·.2)) (hif : ifs = [] ∨ ∃ c, ifs = [c])
    (hs : ∀ x, foldedSetIterable iter F.X.env x = pure x := by intro _; rfl) :
    EFM F ρ g c0 α0 (.ListComp elt [⟨tg, iter, ifs, 0⟩] scope pos) (mi.bind fun ds => compM ds [] c0 (elMM f mt me)) := fun S H σ Q s w => by
  obtain ⟨wi, pi, q⟩ := lc_WM (own := own) (Q := Q) hi s ht hts hel hio w
  exact We.of (pe_lc hc hN pi ok (fun _ _ _ _ _ => pg_gB) (fun _ _ _ _ _ => pts_tB hif) (fun _ _ _ _ _ => pe_eB) hs) q
theorem tsm0 {c : γ} {α : Al} : TsM F ρ g c α [] (.ok (true, c)) := .inl ⟨rfl, rfl⟩
theorem EM.stuck {e : Expr} {c : γ} {α : Al} : EM F ρ g c α e .stuck := fun _ _ _ _ _ w => w.elim
theorem TM.stuck {e : Expr} {c : γ} {α : Al} : TM F ρ g c α e .stuck := fun _ _ _ _ _ w => w.elim
theorem em1 {e : Expr} {c : γ} {α : Al} {h : D → Res (D × γ)} {xs : List D} (k : ∀ a, EM F (setAll ρ is [a]) g c α e (h a)) : EM F (setAll ρ is xs) g c α e (un1 h xs) := match xs with
  | [a] => k a
  | [] => EM.stuck
  | _ :: _ :: _ => EM.stuck
theorem em2 {e : Expr} {c : γ} {α : Al} {h : D → D → Res (D × γ)} {xs : List D} (k : ∀ a b, EM F (setAll ρ is [a, b]) g c α e (h a b)) : EM F (setAll ρ is xs) g c α e (un2 h xs) := match xs with
  | [a, b] => k a b
  | [] => EM.stuck
  | [_] => EM.stuck
  | _ :: _ :: _ :: _ => EM.stuck
theorem tsm1 {e : Expr} {c : γ} {α : Al} {h : D → Res (Bool × γ)} {xs : List D} (k : ∀ a, TM F (setAll ρ is [a]) g c α e (h a)) : TsM F (setAll ρ is xs) g c α [e] (un1 h xs) := match xs with
  | [a] => .inr ⟨e, rfl, k a⟩
  | [] => .inr ⟨e, rfl, TM.stuck⟩
  | _ :: _ :: _ => .inr ⟨e, rfl, TM.stuck⟩
/-- the new list shared at once -/
def dl1 {γ : Type} (r : List D × γ) : D × γ := (.lst r.1, r.2)
theorem em_efm {e : Expr} {c : γ} {α : Al} {m : Res (List D × γ)} (h : EFM F ρ g c α e m) : EM F ρ g c α e (mapR dl1 m) := fun S H σ Q s w =>
  h S H σ Q s (Res.wp_mono (wp_mapR w) (fun r z α p S' H' n u s' => by
    obtain ⟨o, h3, h1, h0, hr, hm, hco, g'⟩ := s'.hg.giveC (j := 0) (d := .lst r.1) rfl n rfl
    exact z α (.ref p) (upd S' p o) H' (u.trans (Sub.ext S' h1)) ⟨g', s'.sl.mono (Sub.ext S' h1)⟩ hr) fun _ z => z)
end
section
variable {τ τ' β κ : Type} {F : FrS} {o : τ → Al → List Sl × Ga} {ob : β → Al → List Sl × Ga} {oc : κ → Al → Ga} {ρ : List Sl} {Γ : Ga} {rest : List Stmt} {ks : List (List Stmt)} {pos : Pos} {x : Str} {γ : Type} {g : γ → Al → Ga} {c0 : γ} {α0 : Al} {f : D → Res (List D)} {is : List Nat}
def uL {γ α : Type} (mr : List D → γ → Res α) (r : List D × γ) : Res α := mr r.1 r.2
/-- y = [.. for ..], cells changed beside -/
theorem s_setLcM {i : Nat} {pos' cpos : Pos} {tg iter elt : Expr} {ifs : List Expr} {scope : Scope} {own : List (Str × Nat)} {mi : Res (List D)} {mt : List D → γ → Res (Bool × γ)} {me : List D → γ → Res (D × γ)} {mr : List D → γ → Res (Fl τ β κ)}
    (ok : BlkOk F.X.N F.X.env.scope scope own) (hi : Ei F.toFr ρ (g c0 α0) tg iter mi)
    (ht : ∀ s H0 C cl fp, Tj (F.toFr.b s H0 scope C cl fp) tg f is) (hts : ∀ xs s H0 C cl fp q acc c α, TsM (F.toFr.b s H0 scope C cl fp) (setAll (wipeL ρ (own.map (·.2))) is xs) (fun c α => (q, .lst acc) :: g c α) c α ifs (mt xs c))
    (hel : ∀ xs s H0 C cl fp q acc c α, EM (F.toFr.b s H0 scope C cl fp) (setAll (wipeL ρ (own.map (·.2))) is xs) (fun c α => (q, .lst acc) :: g c α) c α elt (me xs c)) (hio : ∀ i ∈ is, i ∈ own.map (·.2)) (hif : ifs = [] ∨ ∃ c, ifs = [c])
    (hr : ∀ l c α q, q ∉ F.en.O → SJ F o ob oc rest ks (ρ.set i (.at q)) ((q, .lst l) :: g c α) (mr l c)) (hc : F.X.calm = true) (hN : F.X.N.Nodup) (ha : F.al ρ (g c0 α0)) (hy : F.X.N[i]? = some x) (hyl : F.X.env.scope.names.lookup x = some .local)
    (hsw : swapsWith (.ListComp elt [⟨tg, iter, ifs, 0⟩] scope cpos) (some (.Name x pos')) pos.line F.X.env = pure true) (hs : ∀ x, foldedSetIterable iter F.X.env x = pure x := by intro _; rfl) :
    SJ F o ob oc (.Assign [.Name x pos'] (.ListComp elt [⟨tg, iter, ifs, 0⟩] scope cpos) pos :: rest) ks ρ (g c0 α0) ((mi.bind fun ds => compM ds [] c0 (elMM f mt me)).bind (uL mr)) := fun S H σ D s w => by
  obtain ⟨wi, pi, q⟩ := lc_WM (own := own) (Q := fun v H1 => gName i v σ H1 (WSs F.X rest { D with nx := Wks F.X ks D })) hi s ht hts hel hio (Res.wp_mono (Res.wp_bind w) (fun r w1 α q S1 H1 n u1 s1 => (hr r.1 r.2 α q n).run ⟨s1.hg, s1.sl.set i rfl⟩ u1 w1) fun _ z => xw_of ha z)
  exact WSs.of (pss_cons (ps_setLc hc hN hy hyl hsw pi ok (fun _ _ _ _ _ => pg_gB) (fun _ _ _ _ _ => pts_tB hif) (fun _ _ _ _ _ => pe_eB) hs) pss_W) q
def uT {τ β κ γ : Type} (d : D) (fc : γ → κ) (r : List D × γ) : Res (Fl τ β κ) := .ok (.rt (.tup [d, .lst r.1]) (fc r.2))
/-- return (a, [.. for ..]), cells changed beside: the list is new since the entry -/
theorem s_retTC {a b : Expr} {kx : Nat} {tpos : Pos} {ma : Res D} {mb : Res (List D × γ)} {fc : γ → κ} (ha1 : E F.toFr ρ (g c0 α0) a ma) (hb : EFM F.toFr ρ g c0 α0 b mb) (f : ∀ c α, ∃ β, Fewer (g c α) (oc (fc c) β)) (ha : F.al ρ (g c0 α0))
    (hq : ∀ d v S H G, FrT 1 F.X.K F.en d v S H G → F.rt d v S H G := by exact fun _ _ _ _ _ z => z) (h1 : starEach (a :: [b]) F.X.env = (false, eval a F.X.env) :: starEach [b] F.X.env := by rfl) (h2 : starEach (b :: []) F.X.env = (false, eval b F.X.env) :: starEach [] F.X.env := by rfl) :
    SJ F o ob oc (.Return (some (.Tuple [a, b] kx tpos)) pos :: rest) ks ρ (g c0 α0) (ma.bind fun d => mb.bind (uT d fc)) := fun S H σ D s w => by
  refine WSs.of (pss_cons (ps_ret (pe_tup (pa_cons pe_We (pa_cons pe_We pa_nil h2) h1))) (pss_never (sts := rest))) (ha1.at ha s w fun d v S1 H1 u1 s1 r1 w1 => ?_)
  refine hb S1 H1 σ _ s1 (Res.wp_mono (Res.wp_bind w1) (fun r w2 α2 q S2 H2 nq u2 s2 => ?_) fun _ z => xw_of ha z)
  obtain ⟨β2, f2⟩ := f r.2 α2
  refine ⟨by show 2 ≤ _; decide, fun p hp => ?_⟩
  have sp := s2.hg.hp.sub.none hp
  have g2 := s2.hg.share (o := .tup [v, .ref q]) hp
  obtain ⟨vs, k1, k2, k3, k4, k5, g3⟩ := g2.freezeL (j := 0) rfl nq
  have r3 := rep_mono (u2.trans (Sub.ext S2 (o := .tup [v, .ref q]) sp)) _ _ r1
  have uq : Sub (upd S2 p (.tup [v, .ref q])) (upd (upd S2 p (.tup [v, .ref q])) q (.lst vs)) := Sub.ext _ k2
  have hqr : rep F.X.K (upd (upd S2 p (.tup [v, .ref q])) q (.lst vs)) (.lst r.1) (.ref q) := rep_lst_new k2 k4
  have hsq : (upd S2 p (.tup [v, .ref q])) p = some (.tup [v, .ref q]) := upd_same
  have tk2 : tuOk F.X.K (upd S2 p (.tup [v, .ref q])) [Sum.inl d, Sum.inr q] [v, .ref q] := ⟨v, [.ref q], rfl, r3, [], rfl, rfl⟩
  refine w2 β2 (.ref p) _ _ (((u1.trans u2).trans (Sub.ext S2 sp)).trans uq) ⟨g3.hp, g3.ga.fewer f2⟩ ?_ (hq _ _ _ _ _ fun ds' l' e1 e2 => ?_)
  · unfold rep
    exact ⟨p, _, rfl, .inl (.inl (uq _ _ hsq)), reps_cons (rep_mono uq _ _ r3) (reps_one hqr)⟩
  · cases e1
    cases Option.some.inj e2
    refine ⟨p, [v, .ref q], q, rfl, k3, ?_⟩
    rw [del_upd k2]
    refine ⟨.inl (.inl hsq), tk2, ?_⟩
    have gf : Hg F.X.K F.en (upd S2 p (.tup [v, .ref q])) (upd H2 p (.tup [v, .ref q])) (oc (fc r.2) β2) := ⟨g2.hp, (g2.ga.fewer (List.sublist_cons_self _ _)).fewer f2⟩
    exact gf.add k2 k3 k1 ⟨vs, rfl, k4⟩ fun hm => k5 ((f2.map (fun x : Addr × Ce => x.1)).subset hm)
end
end RL
namespace RL
open PySem L2
def asDicR : D → Res (List (Key × D))
  | .dic l => .ok l
  | _ => .stuck
section
variable {F : FrS} {ρ : List Sl} {Γ : Ga} {a : Expr} {es : List Expr} {ms : Res (List D)} {pos p : Pos} {fx : Str} {k : Nat} {G : List D → Res D}
theorem ef_callND (T : F.toFr.KnF fx k G) (hr : Room k F.X.A) (h : Ea F.toFr ρ Γ (a :: es) ms) (hg : Gl F.X fx := by rfl) (hdb : (fx == ("__debug__" : Str)) = false := by decide)
    (he : starEach (a :: es) F.X.env = (false, eval a F.X.env) :: starEach es F.X.env := by rfl) (hpl : (backTo pos (starEach es F.X.env)).any (·.1) = false := by rfl) :
    EF F.toFr ρ Γ Ce.dic (.Call (.Name fx p) (a :: es) [] pos) (ms.bind fun ds => (G ds).bind asDicR) := fun S H σ Q s w => by
  obtain ⟨f, fd, ps, Fn, hm, hk, hb⟩ := T
  refine We.of (pe_callS (E := WE F.W) Fn hr hg hm hk hb (fun σ => passAt F.tk σ) pa_Wa hdb he hpl) (h.go s w fun ds vs S1 H1 u1 s1 r1 w1 => ?_)
  refine ⟨S1, ds, s1.hg.hp.sub, r1, Res.wp_mono (Res.wp_bind w1) (fun d z v S' H' e rv fr => ?_) fun c z S' H' e => z S' H' (s1.mk' e.up (s1.hg.ext e))⟩
  unfold asDicR at z
  split at z
  · obtain ⟨q, S2, rfl, n, u2, s2⟩ := own_of s1 e fr rfl
    exact z q S2 H' n (u1.trans u2) s2
  · exact z.elim
end
section
variable {F : Fr} {ρ : List Sl} {γ : Type} {g : γ → Al → Ga} {c : γ} {α : Al} {a b : Expr} {ma : Res D} {mb : Res (D × γ)} {kx : Nat} {tpos : Pos}
def tp2 {γ : Type} (d : D) (r : D × γ) : D × γ := (.tup [d, r.1], r.2)
theorem em_tup2 (ha : E F ρ (g c α) a ma) (hb : EM F ρ g c α b mb) (h1 : starEach (a :: [b]) F.X.env = (false, eval a F.X.env) :: starEach [b] F.X.env := by rfl) (h2 : starEach (b :: []) F.X.env = (false, eval b F.X.env) :: starEach [] F.X.env := by rfl) :
    EM F ρ g c α (.Tuple [a, b] kx tpos) (ma.bind fun d => mapR (tp2 d) mb) := fun S H σ Q s w =>
  We.of (pe_tup (pa_cons pe_We (pa_cons pe_We pa_nil h2) h1)) (ha.go s w fun d v S1 H1 u1 s1 r1 w1 => hb S1 H1 σ _ s1 (Res.wp_mono (wp_mapR w1) (fun r z α2 v2 S2 H2 u2 s2 r2 => by
    refine ⟨by show 2 ≤ _; decide, fun p hp => ?_⟩
    have sp := s2.hg.hp.sub.none hp
    exact z α2 _ _ _ ((u1.trans u2).trans (Sub.ext S2 sp)) (s2.mk' (Sub.ext S2 sp) (s2.hg.share hp)) (rep_tup_new sp (reps_cons (rep_mono u2 _ _ r1) (reps_one r2)))) fun _ z => z))
end
end RL

/-! RL37: x.index(e), x a list of whole numbers. -/
namespace RL
open PySem L2
def D.index1 (d e : D) : Res D := match d, e with
  | .lst l, .int i => match D.allInt l with
    | some ns => match ns.findIdx? (fun n => n == i) with
      | some j => .ok (.int (j : Nat))
      | none => .stuck
    | none => .stuck
  | _, _ => .stuck
def isLs : D → Res Unit
  | .lst _ => .ok ()
  | _ => .stuck
theorem e_index {F : Fr} {ρ : List Sl} {Γ : Ga} {o e : Expr} {apos cpos : Pos} {mo me : Res D} (ho : Er F ρ Γ o mo) (he : E F ρ Γ e me)
    (hpe : ∀ {to : TE} {t : TA}, PE F.X o to → PA F.X [e] t → PE F.X (.Call (.Attribute o "index" apos) [e] [] cpos) (tBM F.X.K "list" (rIndex F.X.K) to t) := by exact fun ho ha => pe_bm PySem.F.plainAttrs_list PySem.F.slot_list_index PySem.F.type_list_index mt_index ho ha)
    (hst : starEach (e :: []) F.X.env = (false, eval e F.X.env) :: starEach [] F.X.env := by rfl) :
    E F ρ Γ (.Call (.Attribute o "index" apos) [e] [] cpos) (mo.bind fun x => (isLs x).bind fun _ => me.bind fun y => D.index1 x y) := fun S H σ Q s w =>
  We.of (hpe pe_We (pa_cons pe_We pa_nil hst)) (ho.go s w fun d v S1 H1 u1 s1 r1 w1 => by
    cases d with
    | lst l =>
      obtain ⟨p, vs, rfl, hr, rs⟩ := srep_lst (r1 S1 H1 (Sub.refl S1) s1.hg)
      refine ⟨.inl ⟨rfl, _, .inl hr⟩, he.go s1 w1 fun y v2 S2 H2 u2 s2 r2 w2 => ?_⟩
      obtain ⟨p2, vs2, e2, hr2, rs2⟩ := srep_lst (r1 S2 H2 u2 s2.hg)
      cases e2
      have w2 : (D.index1 (.lst l) y).wp _ _ := w2
      unfold D.index1 at w2
      split at w2
      · rename_i l' i e1 e2
        cases e1
        split at w2
        · rename_i ns en
          split at w2
          · rename_i j ej
            have ev := ints_all rs2 en
            subst ev
            obtain ⟨hj, hz, hno⟩ := List.findIdx?_eq_some_iff_getElem.mp ej
            refine ⟨p, _, v2, j, .int ns[j], rfl, rfl, .inl hr2, by rw [rep_int_eq r2]; rfl, ?_, by simp [hj], by rw [rep_int_eq r2]; exact hz, ?_, w2 _ S2 H2 (u1.trans u2) s2 rep_int⟩
            · exact List.all_eq_true.mpr fun v hv => by
                obtain ⟨n, _, rfl⟩ := List.mem_map.mp hv
                rfl
            · intro m z' hm hz'
              have hml : m < ns.length := by omega
              rw [List.getElem?_map, List.getElem?_eq_getElem hml] at hz'
              cases hz'
              rw [rep_int_eq r2]
              have := hno m hm
              show (ns[m] == i) = false
              simpa using this
          · exact w2.elim
        · exact w2.elim
      · exact w2.elim
    | _ => exact w1.elim)
section
variable {F : Fr} {ρ : List Sl} {Γ : Ga}
theorem star_tup {es' : List Expr} {k : Nat} {pos : Pos} {es : List Expr} {env : Env} : starEach (.Tuple es' k pos :: es) env = (false, eval (.Tuple es' k pos) env) :: starEach es env := rfl
theorem star_lst {es' : List Expr} {pos : Pos} {es : List Expr} {env : Env} : starEach (.List es' pos :: es) env = (false, eval (.List es' pos) env) :: starEach es env := rfl
theorem star1_lst {es' : List Expr} {pos : Pos} {env : Env} : starEach [.List es' pos] env = [(false, eval (.List es' pos) env)] := rfl
theorem eak_tup {es' : List Expr} {l' : List D} {k : Nat} {pos : Pos} {es : List Expr} {l : List D} (h' : Ea F ρ Γ es' (.ok l')) (h : Ea F ρ Γ es (.ok l)) (hl : l'.length ≤ 100 := by exact Nat.le_of_ble_eq_true rfl) : Ea F ρ Γ (.Tuple es' k pos :: es) (.ok (.tup l' :: l)) := by
  have z := ea_cons (e_tup (pos := pos) (x1 := k) h') h star_tup
  have e : (Res.ok l').bind mkTup = .ok (.tup l') := by
    show (if l'.length ≤ sizeLine then Res.ok (D.tup l') else .stuck) = _
    rw [if_pos (Nat.le_trans hl (by decide))]
  rw [e] at z
  exact z
end
end RL

/-! RL38: list(a dict); a comprehension over a dict of one's own; a new dict told by a def that a list is lent to. -/
namespace RL
open PySem L2
abbrev keysD (l : List (Key × D)) : List D := l.map fun kv => keyOf kv.1
theorem rep_keyOf {K : PySem.W.Frag} {S : Hp} (k : Key) : rep K S (keyOf k) (kV k) := by
  cases k with
  | inl i => exact rep_int
  | inr i => exact rep_str
theorem reps_keys {K : PySem.W.Frag} {S : Hp} : ∀ {l : List (Key × D)} {vs : List (Key × V)}, repk K S l vs → reps K S (l.map fun kv => keyOf kv.1) (vs.map fun kv => kV kv.1)
  | [], vs, r => by unfold repk at r; subst r; exact reps_nil
  | (k, d) :: l, vs, r => by
    unfold repk at r
    obtain ⟨v, t, rfl, _, rs⟩ := r
    exact reps_cons (rep_keyOf k) (reps_keys rs)
def D.toLK : D → Res (List D)
  | .dic l => .ok (keysD l)
  | _ => .stuck
section
variable {F : Fr} {ρ : List Sl} {Γ : Ga} {a : Expr} {ma : Res D} {p pos : Pos}
theorem ef_listK {p2 : Pos} (hc : F.X.calm = true) (hm : F.X.mg "list" = none) (ha : Er F ρ Γ a ma) (hg : Gl F.X "list" := by rfl) (hv : bootBuiltins "list" = some (.type "list") := by decide +kernel)
    (he : starEach (a :: []) F.X.env = (false, eval a F.X.env) :: starEach [] F.X.env := by rfl) (hpl : (backTo pos (starEach [] F.X.env)).any (·.1) = false := by rfl) :
    EF F ρ Γ Ce.lst (.Call (.Name "list" p2) [a] [] pos) (ma.bind D.toLK) := fun S H σ Q s w =>
  We.of (pe_callTy (call_listD hc) hg hm hv (pa_cons pe_We pa_nil he) (by decide) (by decide) he hpl) (ha.go s w fun d v S1 H1 u1 s1 r1 w1 => by
    have rd := r1 S1 H1 (Sub.refl S1) s1.hg
    unfold D.toLK at w1
    split at w1
    · obtain ⟨q, vs, rfl, hr, rs⟩ := srep_dic rd
      exact ⟨q, vs, rfl, hr, fun l hl => w1 l S1 _ (s1.hg.no hl) u1 (s1.own hl ⟨_, rfl, reps_keys rs⟩)⟩
    · exact w1.elim)
end
section
variable {F : Fr} {ρ : List Sl} {Γ : Ga} {tg elt a : Expr} {ifs : List Expr} {scope : Scope} {own : List (Str × Nat)} {pos : Pos} {f : D → Res (List D)} {is : List Nat} {mt : List D → Res Bool} {me : List D → Res D} {q0 : Addr} {l0 : List (Key × D)} {j0 : Nat}
theorem lc_WK {S H σ} {Q : VK} {od : Obj} {vs0 : List (Key × V)} (ho : At F ρ Γ a q0) (hj : Γ[j0]? = some (q0, .fz od vs0 l0)) (s : StOk F.X.K F.en S H σ ρ Γ)
    (ht : ∀ s H0 C cl fp, Tj (F.b s H0 scope C cl fp) tg f is) (hts : ∀ xs s H0 C cl fp q acc, TsB (F.b s H0 scope C cl fp) (setAll (wipeL ρ (own.map (·.2))) is xs) ((q, .lst acc) :: Γ) ifs (mt xs))
    (hel : ∀ xs s H0 C cl fp q acc, E (F.b s H0 scope C cl fp) (setAll (wipeL ρ (own.map (·.2))) is xs) ((q, .lst acc) :: Γ) elt (me xs))
    (hio : ∀ i ∈ is, i ∈ own.map (·.2))
    (w : (comp (keysD l0) [] (elM f mt me)).wp (fun l => ∀ p S' H', p ∉ F.en.O → Sub S S' → StOk F.X.K F.en S' H' σ ρ ((p, .lst l) :: Γ) → Q (.ref p) H') (Xw F ρ Γ σ)) :
    tLc (iKeys (We F.X a)) (gB F.X scope tg) (tsB F.X scope ifs) (eB F.X scope elt) (own.map (·.2)) σ H Q := by
  have fzat : ∀ {S' H' Γ'}, Hg F.X.K F.en S' H' Γ' → (q0, Ce.fz od vs0 l0) ∈ Γ' → H' q0 = some (.frz od (.dK vs0)) ∧ repk F.X.K S' l0 vs0 := fun {S' H' Γ'} g hm => by
    obtain ⟨_, _, o, h1, h2, h3⟩ := g.ga.ce _ _ hm
    subst h2
    exact ⟨h1, h3⟩
  refine ho S H σ _ s ⟨q0, od, rfl, .inl ⟨vs0, (fzat s.hg (mem_at hj)).1, fun q hq => ?_⟩⟩
  have n := s.hg.no hq
  have el : vs0.length = l0.length := repk_len (fzat s.hg (mem_at hj)).2
  have W := walk_keys (d := q0) (o := od) (kvs := vs0)
  refine lc_it W (fun i H => ∃ l S2, Sub S S2 ∧ StOk F.X.K F.en S2 H σ ρ ((q, .lst l) :: Γ) ∧ (comp ((keysD l0).drop i) l (elM f mt me)).wp (fun l => ∀ p S' H', p ∉ F.en.O → Sub S S' → StOk F.X.K F.en S' H' σ ρ ((p, .lst l) :: Γ) → Q (.ref p) H') (Xw F ρ Γ σ))
    ⟨[], S, Sub.refl S, s.own hq ⟨[], rfl, reps_nil⟩, w⟩ (fun i H _ ⟨l, S2, u2, s2, _⟩ => (fzat s2.hg (List.mem_cons_of_mem _ (mem_at hj))).1) ?_ ?_
  · rintro i x H2 H3 hi2 ⟨l, S2, u2, s2, w2⟩ y
    obtain ⟨rfl, k, v, hv, rfl⟩ := y
    have hi3 : i < l0.length := by rw [← el]; exact hi2
    obtain ⟨d, hd⟩ : ∃ d, l0[i]? = some (k, d) := by
      obtain ⟨d, h1, _⟩ := repk_getV (fzat s2.hg (List.mem_cons_of_mem _ (mem_at hj))).2 hv
      exact ⟨d, h1⟩
    have sb : StOk F.X.K F.en S2 H3 (wipe σ (own.map (·.2))) (wipeL ρ (own.map (·.2))) ((q, .lst l) :: Γ) := ⟨s2.hg, wipeL_ok s2.sl _⟩
    have e : (keysD l0).drop i = keyOf k :: (keysD l0).drop (i + 1) := by
      obtain ⟨h1, h2⟩ := List.getElem?_eq_some_iff.mp hd
      rw [List.drop_eq_getElem_cons (by rw [List.length_map]; exact h1), List.getElem_map, h2]
    rw [e] at w2
    intro s' H0 C cl fp
    refine ht s' H0 C cl fp S2 H3 _ (kV k) (keyOf k) _ _ _ (fun _ => False) sb (rep_keyOf k) (Res.wp_mono (Res.wp_bind (wp_comp w2)) (fun xs w4 us s4 => ⟨by rw [wipe_setV _ is us _ hio, wipe_wipe], ?_⟩) fun _ z => z)
    have w5 := Res.wp_bind w4
    have fin : ∀ (b : Bool) (S5 : Hp) (H5 : Hp), Sub S2 S5 → StOk F.X.K F.en S5 H5 (setV (wipe σ (own.map (·.2))) is us) (setAll (wipeL ρ (own.map (·.2))) is xs) ((q, .lst l) :: Γ) →
        ((if b = true then (me xs).bind fun y => .ok (some y) else .ok none : Res (Option D)).wp (fun o => match o with
          | some x => l.length < sizeLine ∧ (comp ((keysD l0).drop (i + 1)) (l ++ [x]) (elM f mt me)).wp (fun l => ∀ p S' H', p ∉ F.en.O → Sub S S' → StOk F.X.K F.en S' H' σ ρ ((p, .lst l) :: Γ) → Q (.ref p) H') (Xw F ρ Γ σ)
          | none => (comp ((keysD l0).drop (i + 1)) l (elM f mt me)).wp (fun l => ∀ p S' H', p ∉ F.en.O → Sub S S' → StOk F.X.K F.en S' H' σ ρ ((p, .lst l) :: Γ) → Q (.ref p) H') (Xw F ρ Γ σ)) fun _ => False) →
        if b = true then eB F.X scope elt (setV (wipe σ (own.map (·.2))) is us) H5 fun y H4 => ∃ acc, H4 q = some (.lst acc) ∧ acc.length < sizeLine ∧
            (fun i H => ∃ l S2, Sub S S2 ∧ StOk F.X.K F.en S2 H σ ρ ((q, .lst l) :: Γ) ∧ (comp ((keysD l0).drop i) l (elM f mt me)).wp (fun l => ∀ p S' H', p ∉ F.en.O → Sub S S' → StOk F.X.K F.en S' H' σ ρ ((p, .lst l) :: Γ) → Q (.ref p) H') (Xw F ρ Γ σ)) (i + 1) (upd H4 q (.lst (acc ++ [y])))
          else (fun i H => ∃ l S2, Sub S S2 ∧ StOk F.X.K F.en S2 H σ ρ ((q, .lst l) :: Γ) ∧ (comp ((keysD l0).drop i) l (elM f mt me)).wp (fun l => ∀ p S' H', p ∉ F.en.O → Sub S S' → StOk F.X.K F.en S' H' σ ρ ((p, .lst l) :: Γ) → Q (.ref p) H') (Xw F ρ Γ σ)) (i + 1) H5 := fun b S5 H5 u5 s5 w6 => by
      have back : ∀ (S6 H6 : Hp) (l' : List D), Sub S2 S6 → Hg F.X.K F.en S6 H6 ((q, .lst l') :: Γ) → StOk F.X.K F.en S6 H6 σ ρ ((q, .lst l') :: Γ) := fun S6 H6 l' u6 g6 => ⟨g6, s2.sl.mono u6⟩
      cases b with
      | false =>
        rw [if_neg Bool.false_ne_true]
        exact ⟨l, S5, u2.trans u5, back S5 H5 l u5 s5.hg, w6⟩
      | true =>
        rw [if_pos rfl]
        intro s7 H7 C7 cl7 fp7
        refine hel xs s7 H7 C7 cl7 fp7 q l S5 H5 _ _ s5 (Res.wp_mono (Res.wp_bind w6) (fun y w7 v S8 H8 u8 s8 r8 => ?_) fun _ z => z.elim)
        obtain ⟨hl, w8⟩ := w7
        obtain ⟨_, _, o1, h5, vs1, rfl, rs1⟩ := s8.hg.ga.ce q _ List.mem_cons_self
        refine ⟨vs1, h5, by rw [reps_len rs1]; exact hl, l ++ [y], S8, u2.trans (u5.trans u8), ?_, w8⟩
        exact back S8 _ _ (u5.trans u8) (s8.hg.write (i := 0) (c' := .lst (l ++ [y])) rfl ⟨_, rfl, reps_app rs1 (reps_one r8)⟩)
    cases ifs with
    | nil =>
      rcases hts xs s' H0 C cl fp q l with ⟨_, e2⟩ | ⟨c, e2, _⟩
      · rw [e2] at w5
        exact fin true S2 H3 (Sub.refl S2) s4 w5
      · cases e2
    | cons c r =>
      intro s7 H7 C7 cl7 fp7
      rcases hts xs s7 H7 C7 cl7 fp7 q l with ⟨e1, _⟩ | ⟨c', e1, ht'⟩
      · cases e1
      · cases e1
        exact ht' S2 H3 _ _ s4 (Res.wp_mono w5 (fun b w6 S5 H5 u5 s5 => fin b S5 H5 u5 s5 w6) fun _ z => z.elim)
  · rintro H2 ⟨l, S2, u2, s2, w2⟩
    rw [List.drop_eq_nil_of_le (by rw [List.length_map]; omega)] at w2
    exact w2 q S2 H2 n u2 s2
/-- [.. for x in d], d a dict of one's own -/
theorem ef_lcK (j0 : Nat) (hj : Γ[j0]? = some (q0, .dic l0)) (ho : ∀ od vs, At F ρ (lkG j0 q0 od vs l0 Γ) a q0) (hc : F.X.calm = true) (hN : F.X.N.Nodup) (ok : BlkOk F.X.N F.X.env.scope scope own)
    (ht : ∀ s H0 C cl fp, Tj (F.b s H0 scope C cl fp) tg f is) (hts : ∀ od vs xs s H0 C cl fp q acc, TsB (F.b s H0 scope C cl fp) (setAll (wipeL ρ (own.map (·.2))) is xs) ((q, .lst acc) :: lkG j0 q0 od vs l0 Γ) ifs (mt xs))
    (hel : ∀ od vs xs s H0 C cl fp q acc, E (F.b s H0 scope C cl fp) (setAll (wipeL ρ (own.map (·.2))) is xs) ((q, .lst acc) :: lkG j0 q0 od vs l0 Γ) elt (me xs)) (hio : ∀ i ∈ is, i ∈ own.map (·.2)) (hif : ifs = [] ∨ ∃ c, ifs = [c])
    (hs : ∀ x, foldedSetIterable a F.X.env x = pure x := by intro _; rfl) :
    EF F ρ Γ Ce.lst (.ListComp elt [⟨tg, a, ifs, 0⟩] scope pos) (comp (keysD l0) [] (elM f mt me)) := fun S H σ Q s w => by
  obtain ⟨hS, hO, ob1, h4, vs, rfl, rs⟩ := s.hg.ga.ce q0 _ (mem_at hj)
  have lt : j0 < Γ.length := (List.getElem?_eq_some_iff.mp hj).1
  refine We.of (pe_lock (pe_lc hc hN (pi_keys pe_We) ok (fun _ _ _ _ _ => pg_gB) (fun _ _ _ _ _ => pts_tB hif) (fun _ _ _ _ _ => pe_eB) hs)) ⟨q0, .dK vs, h4, trivial, fun od => ?_⟩
  have hj2 : (lkG j0 q0 od vs l0 Γ)[j0]? = some (q0, .fz od vs l0) := List.getElem?_set_self lt
  have s2 : StOk F.X.K F.en S (upd H q0 (.frz od (.dK vs))) σ ρ (lkG j0 q0 od vs l0 Γ) := ⟨s.hg.write hj ⟨rfl, rs⟩, s.sl⟩
  refine lc_WK (own := own) (ho od vs) hj2 s2 ht (hts od vs) (hel od vs) hio ?_
  cases q : comp (keysD l0) [] (elM f mt me) with
  | ok l =>
    rw [q] at w
    intro p S' H' n u' s'
    obtain ⟨_, _, o2, e1, e2⟩ := s'.hg.ga.ce q0 (.fz od vs l0) (List.mem_cons_of_mem _ (mem_at hj2))
    have e2 : o2 = .frz od (.dK vs) := e2.1
    rw [e2] at e1
    refine ⟨e1, w p S' _ n u' ?_⟩
    have g := s'.hg.write (i := j0 + 1) (c' := .dic l0) (show ((p, Ce.lst l) :: lkG j0 q0 od vs l0 Γ)[j0 + 1]? = some (q0, .fz od vs l0) from hj2) ⟨vs, rfl, repk_mono u' _ _ rs⟩
    rw [show ((p, Ce.lst l) :: lkG j0 q0 od vs l0 Γ).set (j0 + 1) (q0, .dic l0) = (p, .lst l) :: (lkG j0 q0 od vs l0 Γ).set j0 (q0, .dic l0) from rfl] at g
    unfold lkG at g
    rw [set_set_self hj] at g
    exact ⟨g, s'.sl⟩
  | exc k =>
    rw [q] at w
    exfalso
    revert q
    clear w
    intro q
    have : ∀ (ds acc : List D), comp ds acc (elM f mt me) ≠ .exc k := by
      intro ds
      induction ds with
      | nil => intro acc z; cases z
      | cons d r ih =>
        intro acc z
        rw [comp_cons] at z
        split at z
        · split at z
          · exact ih _ z
          · cases z
        · exact ih _ z
        · cases z
        · cases z
    exact this _ _ q
  | stuck => rw [q] at w; exact w.elim
end
section
variable {F : FrS} {ρ : List Sl} {Γ : Ga} {a : Expr} {es : List Expr} {ms : Res (List D)} {pos p : Pos} {fx : Str} {k : Nat} {G : List D → Res D} {q : Addr} {l0 : List D}
/-- a list lent to a def that tells a new dict without lists -/
theorem ef_callLD (j : Nat) (hc : Γ[j]? = some (q, .lst l0)) (T : F.toFr.KnF fx k G) (hr : Room k F.X.A) (h : EaL F.toFr ρ Γ q (a :: es) ms) (hg : Gl F.X fx := by rfl) (hdb : (fx == ("__debug__" : Str)) = false := by decide)
    (he : starEach (a :: es) F.X.env = (false, eval a F.X.env) :: starEach es F.X.env := by rfl) (hpl : (backTo pos (starEach es F.X.env)).any (·.1) = false := by rfl) :
    EF F.toFr ρ Γ Ce.dic (.Call (.Name fx p) (a :: es) [] pos) (ms.bind fun ds => ((G ds).bind noLD).bind asDicR) := fun S H σ Q s w => by
  obtain ⟨f, fd, ps, Fn, hm, hk, hb⟩ := T
  refine We.of (pe_callS (E := WE F.W) Fn hr hg hm hk hb (fun σ => passAt F.tk σ) pa_Wa hdb he hpl) (h S H σ _ s (Res.wp_mono (Res.wp_bind w) (fun ds w1 us S1 H1 u1 s1 r1 => ?_) fun _ z => z))
  obtain ⟨hq, _, o, ho, vs, rfl, _⟩ := s1.hg.ga.ce q _ (mem_at hc)
  have uS : Sub S1 (upd S1 q (.lst vs)) := Sub.ext S1 hq
  refine ⟨upd S1 q (.lst vs), ds, fun a u z => ?_, r1 _ _ uS ho upd_same, Res.wp_mono (Res.wp_bind (Res.wp_bind w1)) (fun d z v S' H' e rv fr => ?_) fun k z S' H' e => ?_⟩
  · by_cases y : a = q
    · subst y; rw [upd_same] at z; cases z; exact ho
    · rw [upd_ne y] at z; exact s1.hg.hp.sub a u z
  · unfold noLD at z
    split at z
    · rename_i hf
      have z : (asDicR d).wp _ _ := z
      cases d with
      | dic l =>
        obtain ⟨t, rfl, h0, g⟩ := fr (.dic l) rfl
        have h0 : H1 t = none := h0
        -- the dict apart, the lent list apart
        have up2 : Sub S1 (del S' t) := fun b u hb => by
          have ne : b ≠ t := fun y => by subst y; rw [s1.hg.hp.sub _ _ hb] at h0; cases h0
          have ne2 : b ≠ q := ne_of_none hb hq
          rw [del_ne ne]
          exact e.up b u (by rw [upd_ne ne2]; exact hb)
        have tq : t ≠ q := fun y => by
          subst y
          have z0 := ho.symm.trans h0
          cases z0
        have e2 : Ext (upd S1 q (.lst vs)) H1 (del S' t) H' := ⟨fun b u hb => by
            by_cases y : b = q
            · subst y; rw [del_ne (Ne.symm tq)]; exact e.up _ u hb
            · rw [upd_ne y] at hb; exact up2 b u hb, g.hp.sub, e.same, g.hp.fresh⟩
        obtain ⟨up3, g3⟩ := lent s1.hg hc ho e2
        obtain ⟨_, _, ob, h3, h4⟩ := g.ga.ce t _ List.mem_cons_self
        have hqS : S' q = some (.lst vs) := e.up q _ upd_same
        have hco : ceOk F.X.K (del (del S' t) q) (.dic l) ob := by
          obtain ⟨ws, rfl, rs⟩ := h4
          exact ⟨ws, rfl, repk_noL (vs := vs) (by rw [del_ne (Ne.symm tq)]; exact hqS) l ws (by simpa [D.noL] using hf) rs⟩
        refine z t (del (del S' t) q) H' (s1.hg.no h0) (u1.trans up3) ⟨g3.add ?_ (s1.hg.h0 h0) h3 hco (fun hm => ?_), s1.sl.mono up3⟩
        · rw [del_ne tq, del_same]
        · obtain ⟨⟨b, c⟩, hb, eq⟩ := List.mem_map.mp hm
          have eq : b = t := eq
          subst eq
          obtain ⟨_, _, u, h5, _⟩ := s1.hg.ga.ce b c hb
          rw [h0] at h5; cases h5
      | _ => exact z.elim
    · exact z.elim
  · obtain ⟨up, g2⟩ := lent s1.hg hc ho e
    exact z _ _ (s1.mk' up g2)
end
section
variable {τ τ' β κ : Type} {F : FrS} {o : τ → Al → List Sl × Ga} {ob : β → Al → List Sl × Ga} {oc : κ → Al → Ga} {ρ : List Sl} {Γ : Ga} {rest : List Stmt} {ks : List (List Stmt)} {pos : Pos} {x : Str} {f : D → Res (List D)} {is : List Nat} {q0 : Addr} {l0 : List (Key × D)}
theorem comp_noexc {f : D → Res (Option D)} {k : Str} : ∀ (ds acc : List D), comp ds acc f ≠ .exc k
  | [], acc, z => by cases z
  | d :: r, acc, z => by
    rw [comp_cons] at z
    split at z
    · split at z
      · exact comp_noexc r _ z
      · cases z
    · exact comp_noexc r _ z
    · cases z
    · cases z
/-- y = [.. for x in d], d a dict of one's own -/
theorem s_setLcK {i : Nat} {pos' cpos : Pos} {tg a elt : Expr} {ifs : List Expr} {scope : Scope} {own : List (Str × Nat)} {mt : List D → Res Bool} {me : List D → Res D} {mr : List D → Res (Fl τ β κ)} (j0 : Nat) (hj : Γ[j0]? = some (q0, .dic l0)) (ho : ∀ od vs, At F.toFr ρ (lkG j0 q0 od vs l0 Γ) a q0)
    (ok : BlkOk F.X.N F.X.env.scope scope own) (ht : ∀ s H0 C cl fp, Tj (F.toFr.b s H0 scope C cl fp) tg f is) (hts : ∀ od vs xs s H0 C cl fp q acc, TsB (F.toFr.b s H0 scope C cl fp) (setAll (wipeL ρ (own.map (·.2))) is xs) ((q, .lst acc) :: lkG j0 q0 od vs l0 Γ) ifs (mt xs))
    (hel : ∀ od vs xs s H0 C cl fp q acc, E (F.toFr.b s H0 scope C cl fp) (setAll (wipeL ρ (own.map (·.2))) is xs) ((q, .lst acc) :: lkG j0 q0 od vs l0 Γ) elt (me xs)) (hio : ∀ i ∈ is, i ∈ own.map (·.2)) (hif : ifs = [] ∨ ∃ c, ifs = [c])
    (hr : ∀ c q, q ∉ F.en.O → SJ F o ob oc rest ks (ρ.set i (.at q)) ((q, .lst c) :: Γ) (mr c)) (hc : F.X.calm = true) (hN : F.X.N.Nodup) (hy : F.X.N[i]? = some x) (hyl : F.X.env.scope.names.lookup x = some .local)
    (hsw : swapsWith (.ListComp elt [⟨tg, a, ifs, 0⟩] scope cpos) (some (.Name x pos')) pos.line F.X.env = pure true) (hs : ∀ x, foldedSetIterable a F.X.env x = pure x := by intro _; rfl) :
    SJ F o ob oc (.Assign [.Name x pos'] (.ListComp elt [⟨tg, a, ifs, 0⟩] scope cpos) pos :: rest) ks ρ Γ ((comp (keysD l0) [] (elM f mt me)).bind mr) := fun S H σ D s w => by
  obtain ⟨hS, hO, ob1, h4, vs, rfl, rs⟩ := s.hg.ga.ce q0 _ (mem_at hj)
  have lt : j0 < Γ.length := (List.getElem?_eq_some_iff.mp hj).1
  refine WSs.of (pss_cons (ps_lock (ps_setLc hc hN hy hyl hsw (pi_keys pe_We) ok (fun _ _ _ _ _ => pg_gB) (fun _ _ _ _ _ => pts_tB hif) (fun _ _ _ _ _ => pe_eB) hs)) pss_W) ⟨q0, .dK vs, h4, trivial, fun od => ?_⟩
  have hj2 : (lkG j0 q0 od vs l0 Γ)[j0]? = some (q0, .fz od vs l0) := List.getElem?_set_self lt
  have s2 : StOk F.X.K F.en S (upd H q0 (.frz od (.dK vs))) σ ρ (lkG j0 q0 od vs l0 Γ) := ⟨s.hg.write hj ⟨rfl, rs⟩, s.sl⟩
  refine lc_WK (own := own) (ho od vs) hj2 s2 ht (hts od vs) (hel od vs) hio ?_
  cases q : comp (keysD l0) [] (elM f mt me) with
  | ok l =>
    rw [q] at w
    intro p S' H' n u' s'
    obtain ⟨_, _, o2, e1, e2⟩ := s'.hg.ga.ce q0 (.fz od vs l0) (List.mem_cons_of_mem _ (mem_at hj2))
    have e2 : o2 = .frz od (.dK vs) := e2.1
    rw [e2] at e1
    have g := s'.hg.write (i := j0 + 1) (c' := .dic l0) (show ((p, Ce.lst l) :: lkG j0 q0 od vs l0 Γ)[j0 + 1]? = some (q0, .fz od vs l0) from hj2) ⟨vs, rfl, repk_mono u' _ _ rs⟩
    rw [show ((p, Ce.lst l) :: lkG j0 q0 od vs l0 Γ).set (j0 + 1) (q0, .dic l0) = (p, .lst l) :: (lkG j0 q0 od vs l0 Γ).set j0 (q0, .dic l0) from rfl] at g
    unfold lkG at g
    rw [set_set_self hj] at g
    exact ⟨e1, (hr l p n).run ⟨g, s'.sl.set i rfl⟩ u' w⟩
  | exc k => exact absurd q (comp_noexc _ _)
  | stuck => rw [q] at w; exact w.elim
end
end RL

/-! RL39: a told tuple with a new list in it: asked of its kind, its length; a pair so told. -/
namespace RL
open PySem L2
theorem tuOk_len {K : PySem.W.Frag} {S : Hp} : ∀ {ss : List (D ⊕ Addr)} {us : List V}, tuOk K S ss us → us.length = ss.length
  | [], us, r => by
    have r : us = [] := r
    subst r; rfl
  | .inl d :: ss, us, r => by
    obtain ⟨v, t, rfl, _, rs⟩ := r
    rw [List.length_cons, List.length_cons, tuOk_len rs]
  | .inr p :: ss, us, r => by
    obtain ⟨t, rfl, rs⟩ := r
    rw [List.length_cons, List.length_cons, tuOk_len rs]
section
variable {F : Fr} {ρ : List Sl} {Γ : Ga} {pos p p2 p3 : Pos} {x y : Str} {ss : List (D ⊕ Addr)}
/-- len(x), x such a tuple -/
theorem e_lenTu {z : Int} (i : Nat) (hs : ρ[i]? = some (.tu ss)) (hz : (ss.length : Int) = z) (hm : F.X.mg "len" = none) (hN : F.X.N[i]? = some x := by rfl) (hv : Vis F.X.env.scope x := by first | exact Or.inl rfl | exact Or.inr (Or.inl rfl) | exact Or.inr (Or.inr rfl))
    (h1 : (x == ("__debug__" : Str)) = false := by decide) (h2 : (x == ("__classdict__" : Str)) = false := by decide)
    (hb : bootBuiltins "len" = some (.builtin "len") := by decide +kernel) (hg : Gl F.X "len" := by rfl)
    (he : starEach (.Name x p2 :: []) F.X.env = (false, eval (.Name x p2) F.X.env) :: starEach [] F.X.env := by rfl) (hpl : (backTo pos (starEach [] F.X.env)).any (·.1) = false := by rfl) :
    E F ρ Γ (.Call (.Name "len" p) [.Name x p2] [] pos) (.ok (.int z)) := fun S H σ Q s w => by
  obtain ⟨o, e, hu⟩ := s.sl.get hs
  obtain ⟨t, us, rfl, h3, h4⟩ := hu
  refine We.of (pe_callB call_len_seq hg hm hb (pa_cons (pe_var hN hv h1 h2) pa_nil he) (by decide) (by decide) he hpl) ⟨.ref t, e, t, us, rfl, .inr (s.hg.hp.sub.sqT h3), ?_⟩
  rw [tuOk_len h4, hz]
  exact w _ S H (Sub.refl S) s rep_int
/-- isinstance(x, tuple), x such a tuple -/
theorem e_isTtu (i : Nat) (hs : ρ[i]? = some (.tu ss)) (hm : F.X.mg "isinstance" = none) (hm2 : F.X.mg "tuple" = none) (hN : F.X.N[i]? = some x := by rfl) (hv : Vis F.X.env.scope x := by first | exact Or.inl rfl | exact Or.inr (Or.inl rfl) | exact Or.inr (Or.inr rfl))
    (h1 : (x == ("__debug__" : Str)) = false := by decide) (h2 : (x == ("__classdict__" : Str)) = false := by decide)
    (hv2 : bootBuiltins "tuple" = some (.type "tuple") := by decide +kernel) (hg : Gl F.X "isinstance" := by rfl) (hg2 : Gl F.X "tuple" := by rfl)
    (hb : bootBuiltins "isinstance" = some (.builtin "isinstance") := by decide +kernel)
    (k1 : starEach (.Name x p3 :: [.Name "tuple" p2]) F.X.env = (false, eval (.Name x p3) F.X.env) :: starEach [.Name "tuple" p2] F.X.env := by rfl) (k2 : starEach (.Name "tuple" p2 :: []) F.X.env = (false, eval (.Name "tuple" p2) F.X.env) :: starEach [] F.X.env := by rfl)
    (hpl : (backTo pos (starEach [.Name "tuple" p2] F.X.env)).any (·.1) = false := by rfl) :
    E F ρ Γ (.Call (.Name "isinstance" p) [.Name x p3, .Name "tuple" p2] [] pos) (.ok (.bl true)) := fun S H σ Q s w => by
  obtain ⟨o, e, hu⟩ := s.sl.get hs
  obtain ⟨t, us, rfl, h3, h4⟩ := hu
  have ty : TyX F.X.K H (.ref t) (.type "tuple") := by
    rcases s.hg.hp.sub.sqT h3 with hr | ⟨o, its, n, hk, hc, _⟩
    · rcases hr with hr | ⟨o, hr⟩
      · exact .base (.tup hr)
      · exact .fTuple hr
    · exact .kTuple hk hc
  exact We.of (pe_callB call_isi hg hm hb (pa_cons (pe_var hN hv h1 h2) (pa_cons (pe_bltn (v := .ty "tuple") hg2 hm2 hv2 rfl (by decide) (by decide)) pa_nil k2) k1) (by decide) (by decide) k1 hpl)
    ⟨.ref t, e, .ref t, .ty "tuple", .type "tuple", .type "tuple", true, rfl, .ty "tuple", ty, kit_ty (a := "tuple") (b := "tuple") (by rfl), w _ S H (Sub.refl S) s rep_bl⟩
end
/-- x = f(..): a pair with a new list behind -/
def orT2 {α : Type} (m1 : D → List D → Res α) : D → Res α
  | .tup [a, .lst l] => m1 a l
  | _ => .stuck
section
variable {τ β κ : Type} {F : FrS} {o : τ → Al → List Sl × Ga} {ob : β → Al → List Sl × Ga} {oc : κ → Al → Ga} {ρ : List Sl} {Γ : Ga} {rest : List Stmt} {ks : List (List Stmt)} {pos p : Pos} {i k : Nat} {a : Expr} {es : List Expr} {x fx : Str} {ms : Res (List D)} {G : List D → Res D}
theorem s_setT2 {m1 : D → List D → Res (Fl τ β κ)} {pos' cpos : Pos} (T : F.toFr.KnT 1 fx k G) (hr : Room k F.X.A) (h : Ea F.toFr ρ Γ (a :: es) ms)
    (h1 : ∀ a l q, q ∉ F.en.O → SJ F o ob oc rest ks (ρ.set i (.tu [.inl a, .inr q])) ((q, .lst l) :: Γ) (m1 a l)) (hN : F.X.N.Nodup) (hi : F.X.N[i]? = some x) (hx : Loc F.X.env.scope x) (ha : F.al ρ Γ)
    (hs : swapsWith (.Call (.Name fx p) (a :: es) [] cpos) (some (.Name x pos')) pos.line F.X.env = pure false := by rfl) (hf : F.X.fn x = true ∨ F.X.env.scope.names.lookup x = some .local := by first | exact .inl rfl | exact .inr rfl)
    (hg : Gl F.X fx := by rfl) (hdb : (fx == ("__debug__" : Str)) = false := by decide)
    (he : starEach (a :: es) F.X.env = (false, eval a F.X.env) :: starEach es F.X.env := by rfl) (hpl : (backTo cpos (starEach es F.X.env)).any (·.1) = false := by rfl) :
    SJ F o ob oc (.Assign [.Name x pos'] (.Call (.Name fx p) (a :: es) [] cpos) pos :: rest) ks ρ Γ (ms.bind fun ds => (G ds).bind (orT2 m1)) := fun S H σ D s w => by
  obtain ⟨f, fd, ps, Fn, hm, hk, hb⟩ := T
  refine WSs.of (pss_cons (ps_set hN hi hx (pe_callS (E := WE F.W) Fn hr hg hm hk hb (fun σ => passAt F.tk σ) pa_Wa hdb he hpl) hs hf) pss_W) ?_
  refine h S H σ _ s (Res.wp_mono (Res.wp_bind w) (fun ds w1 vs S1 H1 u1 s1 r1 => ?_) fun _ z => xw_of ha z)
  refine ⟨S1, ds, s1.hg.hp.sub, r1, Res.wp_mono (Res.wp_bind w1) (fun d z v S' H' e rv fr => ?_) fun c z S' H' e => xw_of ha z S' H' (s1.mk' e.up (s1.hg.ext e))⟩
  unfold orT2 at z
  split at z
  · obtain ⟨t, us, q, S2, rfl, n, u2, h3, h4, s2⟩ := ownT_of s1 e fr rfl
    exact (h1 _ _ q n).run ⟨s2.hg, s2.sl.set i ⟨t, us, rfl, h3, h4⟩⟩ (u1.trans u2) z
  · exact z.elim
end
end RL

/-! RL40: thawing: what a def tells of atoms alone is new; a told pair's list of flat tuples becomes a cell of one's own. -/
namespace RL
open PySem L2
def atomB : D → Bool
  | .non => true
  | .bl _ => true
  | .int _ => true
  | .str _ => true
  | _ => false
def flat2B : D → Bool
  | .tup l => l.all atomB
  | d => atomB d
theorem rep_atom {K : PySem.W.Frag} {S S' : Hp} {d : D} {v : V} (h : atomB d = true) (r : rep K S d v) : rep K S' d v := by
  cases d with
  | non => exact rep_non_eq (K := K) (S := S) r ▸ rep_non
  | bl b => unfold rep at r ⊢; exact r
  | int b => unfold rep at r ⊢; exact r
  | str b => unfold rep at r ⊢; exact r
  | lst l => cases h
  | tup l => cases h
  | dic l => cases h
  | scr l => cases h
  | obj c fs => cases h
theorem reps_atom {K : PySem.W.Frag} {S S' : Hp} : ∀ {ds : List D} {vs : List V}, ds.all atomB = true → reps K S ds vs → reps K S' ds vs
  | [], vs, _, r => by unfold reps at r ⊢; exact r
  | d :: ds, vs, h, r => by
    rw [List.all_cons, Bool.and_eq_true] at h
    unfold reps at r ⊢
    obtain ⟨v, t, rfl, rv, rs⟩ := r
    exact ⟨v, t, rfl, rep_atom h.1 rv, reps_atom h.2 rs⟩
theorem rep_flat2 {K : PySem.W.Frag} {S : Hp} {q : Addr} {us : List V} (hq : S q = some (.lst us)) {d : D} {v : V} (h : flat2B d = true) (r : rep K S d v) : rep K (del S q) d v := by
  cases d with
  | tup l =>
    obtain ⟨p, vs, rfl, hs, rs⟩ := rep_tup (K := K) (S := S) r
    have h : l.all atomB = true := h
    unfold rep
    refine ⟨p, vs, rfl, ?_, reps_atom h rs⟩
    rcases hs with (hs | ⟨o, hs⟩) | hs
    · exact .inl (.inl (by rw [del_ne (fun z => by subst z; rw [hq] at hs; cases hs)]; exact hs))
    · exact .inl (.inr ⟨o, by rw [del_ne (fun z => by subst z; rw [hq] at hs; cases hs)]; exact hs⟩)
    · exact .inr hs
  | non => exact rep_atom rfl r
  | bl b => exact rep_atom rfl r
  | int b => exact rep_atom rfl r
  | str b => exact rep_atom rfl r
  | lst l => cases h
  | dic l => cases h
  | scr l => cases h
  | obj c fs => cases h
theorem reps_flat2 {K : PySem.W.Frag} {S : Hp} {q : Addr} {us : List V} (hq : S q = some (.lst us)) : ∀ {ds : List D} {vs : List V}, ds.all flat2B = true → reps K S ds vs → reps K (del S q) ds vs
  | [], vs, _, r => by unfold reps at r ⊢; exact r
  | d :: ds, vs, h, r => by
    rw [List.all_cons, Bool.and_eq_true] at h
    unfold reps at r
    obtain ⟨v, t, rfl, rv, rs⟩ := r
    exact reps_cons (rep_flat2 hq h.1 rv) (reps_flat2 hq h.2 rs)
/-- what is shared here, with what a call told -/
def mix (S T : Hp) : Hp := fun a => match S a with
  | some o => some o
  | none => T a
section
variable {F : FrS}
theorem thaw {ρ : List Sl} {Γ : Ga} {S1 H1 : Hp} {σ : St} {a : D} {l : List D} {v : V} {S' H' : Hp} (s1 : StOk F.X.K F.en S1 H1 σ ρ Γ) (e : Ext (fun _ => none) H1 S' H') (rv : rep F.X.K S' (.tup [a, .lst l]) v) (h1 : atomB a = true) (h2 : l.all flat2B = true) :
    ∃ t us q S2, v = .ref t ∧ q ∉ F.en.O ∧ Sub S1 S2 ∧ SqT F.X.K S2 t us ∧ tuOk F.X.K S2 [Sum.inl a, Sum.inr q] us ∧ StOk F.X.K F.en S2 H' σ ρ ((q, .lst l) :: Γ) := by
  obtain ⟨t, us, rfl, hs, rs⟩ := rep_tup (K := F.X.K) (S := S') rv
  unfold reps at rs
  obtain ⟨va, us1, rfl, ra, rs⟩ := rs
  unfold reps at rs
  obtain ⟨vl, us2, rfl, rl, rs⟩ := rs
  have rs : us2 = [] := by unfold reps at rs; exact rs
  subst rs
  unfold rep at rl
  obtain ⟨q, ws, rfl, hq, rw'⟩ := rl
  have new : ∀ b o, S' b = some o → H1 b = none := fun b o hb => (e.new b o hb).resolve_left fun ⟨u, z⟩ => by cases z
  have h1q : H1 q = none := new q _ hq
  have s1q : S1 q = none := by
    cases z : S1 q with
    | none => rfl
    | some o => rw [s1.hg.hp.sub q o z] at h1q; cases h1q
  have e2 : Ext S1 H1 (mix S1 (del S' q)) H' := by
    refine ⟨fun b o hb => by unfold mix; rw [hb], fun b o hb => ?_, e.same, fun b o hb => ?_⟩
    · unfold mix at hb
      split at hb
      · next o' z => cases hb; exact e.same _ _ (s1.hg.hp.sub b _ z)
      · by_cases y : b = q
        · subst y; rw [del_same] at hb; cases hb
        · rw [del_ne y] at hb; exact e.sub b o hb
    · unfold mix at hb
      split at hb
      · next o' z => exact .inl ⟨_, z⟩
      · by_cases y : b = q
        · subst y; rw [del_same] at hb; cases hb
        · rw [del_ne y] at hb; exact .inr (new b o hb)
  have ud : Sub (del S' q) (mix S1 (del S' q)) := fun b o hb => by
    unfold mix
    split
    · next o' z =>
      by_cases y : b = q
      · subst y; rw [del_same] at hb; cases hb
      · rw [del_ne y] at hb
        have := new b o hb
        rw [s1.hg.hp.sub b _ z] at this; cases this
    · exact hb
  have g2 := s1.hg.ext e2
  have hmq : mix S1 (del S' q) q = none := by unfold mix; rw [s1q]; exact del_same
  have hst : SqT F.X.K (mix S1 (del S' q)) t [va, .ref q] := by
    refine ud.sqT ?_
    rcases hs with (hs | ⟨o, hs⟩) | hs
    · exact .inl (.inl (by rw [del_ne (fun z => by subst z; rw [hq] at hs; cases hs)]; exact hs))
    · exact .inl (.inr ⟨o, by rw [del_ne (fun z => by subst z; rw [hq] at hs; cases hs)]; exact hs⟩)
    · exact .inr hs
  refine ⟨t, _, q, _, rfl, s1.hg.no h1q, e2.up, hst, ⟨va, [.ref q], rfl, rep_atom h1 ra, [], rfl, rfl⟩, g2.add hmq (s1.hg.h0 h1q) (e.sub q _ hq) ⟨ws, rfl, reps_mono ud _ _ (reps_flat2 hq h2 rw')⟩ (fun hm => ?_), s1.sl.mono e2.up⟩
  obtain ⟨⟨b, c⟩, hb, eq⟩ := List.mem_map.mp hm
  have eq : b = q := eq
  subst eq
  obtain ⟨_, _, u, h5, _⟩ := s1.hg.ga.ce b c hb
  rw [h1q] at h5; cases h5
end
/-- x = f(..), atoms handed: a pair of an atom and a list of flat tuples -/
def atomsD (ds : List D) : Res (List D) := if ds.all atomB = true then .ok ds else .stuck
def orTh {α : Type} (m1 : D → List D → Res α) : D → Res α
  | .tup [a, .lst l] => if (atomB a && l.all flat2B) = true then m1 a l else .stuck
  | _ => .stuck
section
variable {τ β κ : Type} {F : FrS} {o : τ → Al → List Sl × Ga} {ob : β → Al → List Sl × Ga} {oc : κ → Al → Ga} {ρ : List Sl} {Γ : Ga} {rest : List Stmt} {ks : List (List Stmt)} {pos p : Pos} {i k : Nat} {a : Expr} {es : List Expr} {x fx : Str} {ms : Res (List D)} {G : List D → Res D}
theorem s_setTh {m1 : D → List D → Res (Fl τ β κ)} {pos' cpos : Pos} (T : F.toFr.Kn fx k G) (hr : Room k F.X.A) (h : Ea F.toFr ρ Γ (a :: es) ms)
    (h1 : ∀ a l q, q ∉ F.en.O → SJ F o ob oc rest ks (ρ.set i (.tu [.inl a, .inr q])) ((q, .lst l) :: Γ) (m1 a l)) (hN : F.X.N.Nodup) (hi : F.X.N[i]? = some x) (hx : Loc F.X.env.scope x) (ha : F.al ρ Γ)
    (hs : swapsWith (.Call (.Name fx p) (a :: es) [] cpos) (some (.Name x pos')) pos.line F.X.env = pure false := by rfl) (hf : F.X.fn x = true ∨ F.X.env.scope.names.lookup x = some .local := by first | exact .inl rfl | exact .inr rfl)
    (hg : Gl F.X fx := by rfl) (hdb : (fx == ("__debug__" : Str)) = false := by decide)
    (he : starEach (a :: es) F.X.env = (false, eval a F.X.env) :: starEach es F.X.env := by rfl) (hpl : (backTo cpos (starEach es F.X.env)).any (·.1) = false := by rfl) :
    SJ F o ob oc (.Assign [.Name x pos'] (.Call (.Name fx p) (a :: es) [] cpos) pos :: rest) ks ρ Γ (ms.bind fun ds => (atomsD ds).bind fun ds => (G ds).bind (orTh m1)) := fun S H σ D s w => by
  obtain ⟨f, fd, ps, Fn, hm, hk, hb⟩ := T
  refine WSs.of (pss_cons (ps_set hN hi hx (pe_callS (E := WE F.W) Fn hr hg hm hk hb (fun σ => passAt F.tk σ) pa_Wa hdb he hpl) hs hf) pss_W) ?_
  refine h S H σ _ s (Res.wp_mono (Res.wp_bind w) (fun ds w1 vs S1 H1 u1 s1 r1 => ?_) fun _ z => xw_of ha z)
  unfold atomsD at w1
  split at w1
  · next hat =>
    refine ⟨fun _ => none, ds, fun _ _ z => (by cases z), reps_atom hat r1, Res.wp_mono (Res.wp_bind w1) (fun d z v S' H' e rv => ?_) fun c z S' H' e => ?_⟩
    · unfold orTh at z
      split at z
      · split at z
        · next hc =>
          rw [Bool.and_eq_true] at hc
          obtain ⟨t, us, q, S2, rfl, n, u2, h3, h4, s2⟩ := thaw s1 e rv hc.1 hc.2
          exact (h1 _ _ q n).run ⟨s2.hg, s2.sl.set i ⟨t, us, rfl, h3, h4⟩⟩ (u1.trans u2) z
        · exact z.elim
      · exact z.elim
    · have e2 : Ext S1 H1 S1 H' := ⟨Sub.refl S1, fun b o hb => e.same _ _ (s1.hg.hp.sub b o hb), e.same, fun b o hb => .inl ⟨o, hb⟩⟩
      exact xw_of ha z S1 H' (s1.mk' e2.up (s1.hg.ext e2))
  · exact w1.elim
end
end RL

/-! RL41: an exception that leaves a comprehension. -/
namespace RL
open PySem L2
section
variable {M : Model} {A : Around} {E : Value → Shared → Prop} {s : Shared} {Z : Obj → Prop} {base : Heap} {env : Env} {outer l : List Env} {L e : Addr}
/-- noted by another frame before -/
theorem look_otherZ {fl : Value} {Q : Unit → Shared → Prop} (hZ : HandSPX.Steady Z) (hfr : A.frames = some (env :: outer)) (hf : env.frame = some L) (hne : ¬ (fl == rawInt L) = true)
    (kb : base.StaysIn s.heap) (en : base.get? e = none) (ff : s.heap.FunFrames base (env :: outer)) (tr : HandSPX.TracedZ s.heap base e Z fl)
    (hQ : ∀ g, HandSPX.HeldZ base (env :: outer) e Z L g → s.heap.UpToSlots g → Q () { s with heap := g }) : wpAny M A (noteFrame (.ref e) env) Q E s := by
  obtain ⟨oe, ws, T, oT, us, he, hz, hd, q1, nT, Te, hT, dT, q3⟩ := tr
  unfold noteFrame
  simp only [hf]
  refine wpAny_bind (wpAny_field he hd q1 ?_)
  rw [if_pos (show (Value.ref T != Value.none) = true by simp)]
  refine wpAny_bind (wpAny_field hT dT q3 ?_)
  rw [if_neg hne]
  refine wpAny_bind (wpAny_setField hT dT (Array.getElem?_eq_some_iff.mp q3).1 ?_)
  have oth : ∀ c, c ≠ T → (s.heap.update T (Obj.mapFields (·.setIfInBounds 3 Value.none))).get? c = s.heap.get? c := fun c hc => Heap.get?_update_other _ _ (Ne.symm hc)
  have nor : ∀ c o, s.heap.get? c = some o → (∀ ws, o.data ≠ .fields ws) → c ≠ T := fun c o hc hn z => by
    rw [z, hT] at hc; injection hc with hc; subst hc; exact hn us dT
  refine HandSPX.wpAny_entryZ hZ hfr (ff.of_keeps fun c o hc hn => ⟨o, (oth c (nor c o hc hn)).trans hc, rfl⟩) hf ((oth e (Ne.symm Te)).trans he)
    (fun c o hc => (oth c fun z => by rw [z, nT] at hc; cases hc).trans (kb c o hc)) en hd (Array.getElem?_eq_some_iff.mp q1).1 hz fun g hg => ?_
  obtain ⟨y1, y2, y3, y4⟩ := hg
  exact hQ g ⟨y1, en, y2, y3⟩ fun c o hc hn => y4 c o ((oth c (nor c o hc hn)).trans hc) hn
end
/-- the context of a comprehension's block that may let an exception out -/
abbrev blkx (X : Cx) (s : Shared) (H : Hp) (scope : Scope) (ce : Env) (fp : List Addr) : Cx :=
  { X.blk s H scope ce fp with xe := notedBy (model X.prog X.w) X.A ce (CompFails (model X.prog X.w) X.A X.xe ce) }
section
variable {X : Cx} {W : WX} {pins : List (Addr × Obj)} {σ : L2.St} {H : Hp} {s : Shared}
theorem takes_blkx {scope : Scope} {cl : List (Str × Addr)} {fp : List Addr} (hs : X.stack = X.env :: X.outer) (hf : X.env.frame = some X.env.locals) (tk : Takes X W) (I : Inv X pins σ H s) (ff : ∀ b ∈ fp, FpOk X pins H b)
    {C : Addr} (hC : C = s.heap.objs.size) : Takes (blkx X s H scope (compEnvC scope cl C X.env) fp) (fun c d _ H' => W c d σ H') := by
  generalize hce : compEnvC scope cl C X.env = ce
  have ceL : ce.locals = C := by rw [← hce]; rfl
  have ceF : ce.frame = some X.env.locals := by rw [← hce]; exact hf
  have ceF' : ce.frame = X.env.frame := by rw [ceF, hf]
  rintro u s' ⟨a, B, sI, pins', σ', H', cls, d, rfl, I6, nb, up, sky, na, os, ag, w⟩
  show wpAny _ _ (noteFrame (.ref a) ce) _ _ s'
  rw [PySem.noteFrame_env _ ceF']
  have hfr : X.A.frames = some (X.env :: X.outer) := by rw [I.ok.frames, hs]
  have LC : X.env.locals ≠ C := fun z => by
    have := I.lt
    rw [z, hC] at this
    exact Nat.lt_irrefl _ this
  have nofr : ∀ L ∈ frs X.stack, L ≠ C := fun L hL z => by
    obtain ⟨_, o, e, _⟩ := I.stack.mem hL
    have := Heap.lt_size e
    rw [z, hC] at this
    exact Nat.lt_irrefl _ this
  obtain ⟨m, hm, _⟩ := I6.loc
  have hm : sI.heap.Ns ce.locals m := hm
  rw [ceL] at hm
  have nC : H' C = none := by
    have z : H' ce.locals = none := I6.free
    rwa [ceL] at z
  have I7 : Inv X pins σ H' sI := I.call' (ch := fp) I6.os I6.base I6.hok I6.bare fun b hb => ⟨(ff b hb).2.2.2.1, (ff b hb).2.1, (ff b hb).2.2.2.2.1, (ff b hb).2.2.2.2.2⟩
  have fC : FpOk X pins H' C := I.fpOk (Nat.le_of_eq hC.symm) nC
  obtain ⟨f0, f1, f2, f3, f4, f5⟩ := fC
  have sky : Sky B X.stack a (Zc cls d) ce.locals s'.heap := sky
  rw [hs, ceL] at sky
  have fin : ∀ g, HandSPX.HeldZ B (X.env :: X.outer) a (Zc cls d) X.env.locals g → s'.heap.UpToSlots g → CompFails (model X.prog X.w) X.A X.xe ce (.ref a) { s' with heap := g } := by
    intro g hh ug
    have hg : g.Ns C m := ug.ns (up.ns hm)
    refine ⟨m, by rw [ceL]; exact hg, fun g2 m2 hn2 sb => ?_⟩
    rw [ceL] at hn2 sb
    obtain ⟨kb, en, fr, tr⟩ := hh
    obtain ⟨oe, vs, T, oT, ts, he, hz, hd, h1, nT, Te, hT, dT, h3⟩ := tr
    obtain ⟨oC, es, ep, hoC, hdC, _⟩ := hg
    have aC : a ≠ C := fun z => by
      have he : g.get? a = some oe := he
      rw [z, hoC] at he; cases he
      rw [hdC] at hd; cases hd
    have TC : T ≠ C := fun z => by
      have hT : g.get? T = some oT := hT
      rw [z, hoC] at hT; cases hT
      rw [hdC] at dT; cases dT
    have hB : ∀ b o, (PySem.W.hideAll B [C]).get? b = some o → b ≠ C ∧ B.get? b = some o := fun b o e => by
      have e2 := PySem.W.of_hideAll [C] e
      refine ⟨fun z => ?_, e2⟩
      subst z
      rw [PySem.W.hideAll_none [b] List.mem_cons_self] at e
      cases e
    have kb2 : (PySem.W.hideAll B [C]).StaysIn g2 := fun b o e => by
      obtain ⟨z, e2⟩ := hB b o e
      exact (sb.2 b z).trans (kb b o e2)
    have fr2 : g2.FunFrames (PySem.W.hideAll B [C]) (X.env :: X.outer) := by
      refine funFrames_none (Heap.FunFrames.sameBut sb hn2 fr) fun L hL => ?_
      cases q : (PySem.W.hideAll B [C]).get? L with
      | none => rfl
      | some o =>
        have e2 := (hB L o q).2
        obtain ⟨z, _⟩ := fr.mem hL
        rw [z] at e2; cases e2
    have noneB : ∀ b, B.get? b = none → (PySem.W.hideAll B [C]).get? b = none := fun b h => by
      cases q : (PySem.W.hideAll B [C]).get? b with
      | none => rfl
      | some o => rw [(hB b o q).2] at h; cases h
    have tr2 : HandSPX.TracedZ g2 (PySem.W.hideAll B [C]) a (Zc cls d) (rawInt X.env.locals) := ⟨oe, vs, T, oT, ts, (sb.2 a aC).trans he, hz, hd, h1, noneB T nT, Te, (sb.2 T TC).trans hT, dT, h3⟩
    show wpAny _ _ (passOn "comprehension.variables-let-go" (.ref a) ce : Sem Value) _ _ _
    unfold passOn
    refine wpAny_bind (wpAny_field ((sb.2 a aC).trans he) hd h1 ?_)
    rw [if_neg (show ¬ ((Value.ref T == Value.none) = true) by simp)]
    rw [ceF]
    refine wpAny_bind (HandSPX.setFlight_anyZ (fr := some X.env.locals) kb2 fr2 tr2 fun g3 y1 y2 y3 y4 => ?_)
    refine wpAny_throw ?_
    refine tk _ _ ⟨a, PySem.W.hideAll B [C], { sI with heap := PySem.W.hideAll sI.heap [C], toks := sI.toks }, pins, σ, H', cls, d, rfl, ?_, fun b o e hb => ?_, fun b o e hn => ?_, ?_, na, os, ag, w⟩
    · exact I7.turned (it := C) (fun b o hb e => PySem.W.hideAll_get [C] e fun z => hb (List.mem_singleton.mp z)) f0 f1 f3 f4 f5
    · have e2 := PySem.W.of_hideAll [C] e
      have bC : b ≠ C := fun z => by
        subst z
        have e : (PySem.W.hideAll sI.heap [b]).get? b = some o := e
        rw [PySem.W.hideAll_none [b] List.mem_cons_self] at e
        cases e
      exact PySem.W.hideAll_get [C] (nb b o e2 hb) fun z => bC (List.mem_singleton.mp z)
    · have e2 := PySem.W.of_hideAll [C] e
      have bC : b ≠ C := fun z => by
        subst z
        have e : (PySem.W.hideAll sI.heap [b]).get? b = some o := e
        rw [PySem.W.hideAll_none [b] List.mem_cons_self] at e
        cases e
      obtain ⟨s1, e3⟩ := up b o e2 hn
      obtain ⟨s2, e4⟩ := ug b _ e3 hn
      obtain ⟨s3, e5⟩ := y4 b _ ((sb.2 b bC).trans e4) hn
      exact ⟨s3, e5⟩
    · refine .inr (.inr ?_)
      rw [hs]
      exact ⟨y1, noneB a en, y2, y3⟩
  rcases sky with ⟨kB, n1, n2, oe, vs, he, hz, hd, h1⟩ | fl | hh
  · exact HandSPX.look_newZ Zc.steady hfr n2 hf he kB n1 hd h1 hz fin
  · exact HandSPX.looks_onZ Zc.steady hfr hf fl fin
  · obtain ⟨z1, z2, z3, z4⟩ := hh
    refine look_otherZ Zc.steady hfr hf (fun z => LC ?_) z1 z2 z3 z4 fin
    have z3 : ((X.env.locals : Nat) : Int) = ((C : Nat) : Int) := by simpa [rawInt] using (eq_of_beq z).symm
    exact Int.ofNat.inj z3
end
/-- where names are bound, tests asked and the item told, an exception leaves the block -/
theorem lc_coreX {X : Cx} {W : WX} {ps : List (Addr × Obj)} {sa : Shared} {σ : L2.St} {H : Hp} {Q : VK} {elt tg iter : Expr} {ifs : List Expr} {scope : Scope} {own : List (Str × Nat)} {pos pos' : Pos} {wi : TI} {g : TG} {tt : TT} {te : TE} {use : Option (Value → Sem Unit)} {Qf : Value → Shared → Prop}
    (hc : X.calm = true) (hN : X.N.Nodup) (hst : X.stack = X.env :: X.outer) (hfm : X.env.frame = some X.env.locals) (tk : Takes X W) (I : Inv X ps σ H sa) (hi : PI X tg iter wi) (ok : BlkOk X.N X.env.scope scope own)
    (hg : ∀ s0 H0 C cl fp, Takes (blkx X s0 H0 scope (compEnvC scope cl C X.env) fp) (fun c d _ h => W c d σ h) → PG (blkx X s0 H0 scope (compEnvC scope cl C X.env) fp) tg g)
    (ht : ∀ s0 H0 C cl fp, Takes (blkx X s0 H0 scope (compEnvC scope cl C X.env) fp) (fun c d _ h => W c d σ h) → PTs (blkx X s0 H0 scope (compEnvC scope cl C X.env) fp) ifs tt)
    (he : ∀ s0 H0 C cl fp, Takes (blkx X s0 H0 scope (compEnvC scope cl C X.env) fp) (fun c d _ h => W c d σ h) → PE (blkx X s0 H0 scope (compEnvC scope cl C X.env) fp) elt te)
    (hfo : ∀ x, foldedSetIterable iter X.env x = pure x) (hw : tLc wi g tt te (own.map (·.2)) σ H Q)
    (fin : ∀ D C ce se m He, ce.locals = C → Inv X ps σ He se → Q (.ref D) He → se.heap.Ns C m → FpOk X ps He C → compEnds (model X.prog X.w) X.A X.xe use Qf (.ref D) ce (.ok .next) se) :
    wpAny (model X.prog X.w) X.A (comprehension (.ListComp elt [⟨tg, iter, ifs, 0⟩] scope pos) scope X.env pos' (newList []) false (eval iter X.env) use) Qf X.xe sa := by
  have fre : ∀ y ∈ scope.names, y.2 = .free → ∃ c, X.env.cells.lookup y.1 = some c := fun y hy z => by
    rcases ok.free y hy z with q | q
    · exact I.ok.has _ (.inl q)
    · exact I.ok.has _ (.inr q)
  refine comprehension_at (use := use) rfl hfo (closure_ok fre) ok.kind (fun y hy z => by rw [ok.uniq y hy, z])
    (thn (hi.run ps sa σ H _ I hw) fun xv sb hx => thn hx fun itv sc hsc => ?_)
  obtain ⟨it, fp, tn, J, Hb, e0, Ib, T, tn0, ffp, q⟩ := hsc
  subst e0
  refine wpAny_newObj_type (newEnv_comp ?_) (by show 0 ≤ sizeLine; decide)
  generalize hD : sc.heap.objs.size = D
  have Dn : Hb D = none := Ib.hok.fresh (Nat.le_of_eq hD)
  obtain ⟨V0, ⟨m0, v0⟩, turn⟩ := q D Dn
  generalize hsd : ({ sc with heap := sc.heap.push { cls := .type "list", data := .seq ([] : List Value).toArray } } : Shared) = sd
  have Id : Inv X ps σ (upd Hb D (.lst [])) sd := by
    rw [← hsd]
    refine Ib.laid (t' := sc.toks) (fun c o z => Heap.get?_push_of_some _ z) (Nat.le_of_eq hD) ⟨Nat.zero_le _, [], 0, .nil, ?_⟩
    rw [← hD]
    exact Heap.get?_push_size _ rfl
  have hpd : sd.heap = sc.heap.push { cls := .type "list", data := .seq ([] : List Value).toArray } := by rw [← hsd]
  have lts : ∀ c ∈ fp, c < sc.heap.objs.size := fun c hcm => by
    obtain ⟨o, z, _⟩ := T.obj _ _ tn0 c hcm
    exact Heap.lt_size z
  have fpd : ∀ c ∈ fp, FpOk X ps (upd Hb D (.lst [])) c ∧ c < sd.heap.objs.size := fun c hcm => by
    have l1 := lts c hcm
    refine ⟨⟨?_, (ffp c hcm).2⟩, by rw [hpd, Heap.size_push]; exact Nat.lt_succ_of_lt l1⟩
    rw [upd_ne (by rw [← hD]; exact Nat.ne_of_lt l1)]
    exact (ffp c hcm).1
  have tnd : tn 0 sd.heap := T.keep _ _ _ tn0 fun c _ o z => by rw [hpd]; exact Heap.get?_push_of_some _ z
  have tkB := takes_blkx (scope := scope) (cl := cellsFrom (sd.heap.objs.size + 1) scope.names (cloFrom X.env.cells scope.names [])) hst hfm tk Id (fun c hcm => (fpd c hcm).1) (C := sd.heap.objs.size) rfl
  have Ie := block_start Id ok hN fpd
  have pg := hg sd (upd Hb D (.lst [])) sd.heap.objs.size (cellsFrom (sd.heap.objs.size + 1) scope.names (cloFrom X.env.cells scope.names [])) fp tkB
  have pt := ht sd (upd Hb D (.lst [])) sd.heap.objs.size (cellsFrom (sd.heap.objs.size + 1) scope.names (cloFrom X.env.cells scope.names [])) fp tkB
  have pe := he sd (upd Hb D (.lst [])) sd.heap.objs.size (cellsFrom (sd.heap.objs.size + 1) scope.names (cloFrom X.env.cells scope.names [])) fp tkB
  show codeAny _ _ (.compStart (.ListComp elt [⟨tg, iter, ifs, 0⟩] scope pos) 0 (.ref it) (.ref D) (compEnvC scope (cellsFrom (sd.heap.objs.size + 1) scope.names (cloFrom X.env.cells scope.names [])) sd.heap.objs.size X.env)) (compEnds (model X.prog X.w) X.A X.xe use Qf (.ref D) (compEnvC scope (cellsFrom (sd.heap.objs.size + 1) scope.names (cloFrom X.env.cells scope.names [])) sd.heap.objs.size X.env)) { sd with heap := pushCells (sd.heap.push { cls := .type "dict", data := .dict #[] }) scope.names }
  have nfp : ∀ c ∈ fp, (upd Hb D (.lst [])) c = none := fun c hcm => (fpd c hcm).1.1
  clear tkB
  generalize hce : compEnvC scope (cellsFrom (sd.heap.objs.size + 1) scope.names (cloFrom X.env.cells scope.names [])) sd.heap.objs.size X.env = ce at Ie pg pt pe ⊢
  have ceL : ce.locals = sd.heap.objs.size := by subst hce; rfl
  generalize hHd : upd Hb D (.lst []) = Hd at Id Ie pg pt pe v0 nfp fpd
  generalize hse : ({ sd with heap := pushCells (sd.heap.push { cls := .type "dict", data := .dict #[] }) scope.names } : Shared) = se at Ie ⊢
  have Ie : Inv (blkx X sd Hd scope ce fp) [] (wipe σ (own.map (·.2))) Hd se := ⟨⟨Ie.ok.mod, Ie.ok.kind, Ie.ok.glob, Ie.ok.blt, Ie.ok.above, Ie.ok.inj, Ie.ok.has, Ie.ok.cab, Ie.ok.hd, Ie.ok.frames, Ie.ok.stk, Ie.ok.exf, Ie.ok.bs, Ie.ok.bsz, Ie.ok.noex, Ie.ok.exfs, Ie.ok.funs, Ie.ok.frf⟩, Ie.os, Ie.bare, Ie.base, Ie.loc, Ie.cell, Ie.free, Ie.freeC, Ie.pin, Ie.hok, Ie.len⟩
  have tne : tn 0 se.heap := T.keep _ _ _ tnd fun c _ o z => by rw [← hse]; exact pushCells_keeps _ _ _ _ (Heap.get?_push_of_some _ z)
  have fst : ∀ {σ2 : L2.St} {H2 : Hp} {s2 : Shared}, Inv (blkx X sd Hd scope ce fp) [] σ2 H2 s2 → (∀ c ∈ fp, H2 c = none) → ∀ c ∈ fp, FpOk (blkx X sd Hd scope ce fp) [] H2 c := fun {σ2 H2 s2} K hn c hcm =>
    ⟨hn c hcm, (K.ok.exf c hcm).1, K.ok.exfs c hcm, .inl hcm, fun x y z => (K.ok.exf c hcm).2 x y z, fun p hp => absurd (show p ∈ ([] : List (Addr × Obj)) ++ [] from hp) (by simp)⟩
  have lp : codeAny (model X.prog X.w) X.A (.compLoop (.ListComp elt [⟨tg, iter, ifs, 0⟩] scope pos) 0 (.ref it) (.ref D) ce) (compEnds (model X.prog X.w) X.A X.xe use Qf (.ref D) ce) se := by
    refine compLoop_any (fun n s2 => ∃ i H2, Inv (blkx X sd Hd scope ce fp) [] (wipe σ (own.map (·.2))) H2 s2 ∧ tn i s2.heap ∧ (∀ c ∈ fp, H2 c = none) ∧ V0 i n H2) ?_ m0 ⟨0, Hd, Ie, tne, nfp, v0⟩
    rintro n sf ⟨i, Hf, If, tnf, nf, vf⟩
    rcases turn i n Hf vf with ⟨stp, qq⟩ | ⟨go, Nx, hNx, stepx⟩
    · have td := T.done (blkx X sd Hd scope ce fp) rfl rfl rfl hc i [] sf _ Hf (fun _ _ => False) If (fst If nf) tnf stp
      refine thnF td fun r sg ⟨hr, Ig⟩ => ?_
      subst hr
      have Ih : Inv X ps σ Hf sg := Id.call' (ch := fp) Ig.os Ig.base Ig.hok Ig.bare fun c hcm => ⟨(fpd c hcm).1.2.2.2.1, (fpd c hcm).1.2.1, (fpd c hcm).1.2.2.2.2.1, (fpd c hcm).1.2.2.2.2.2⟩
      have nC : Hf sd.heap.objs.size = none := by
        have z : Hf ce.locals = none := Ig.free
        rwa [ceL] at z
      obtain ⟨m, hm, _⟩ := Ig.loc
      have hm : sg.heap.Ns ce.locals m := hm
      rw [ceL] at hm
      exact fin D sd.heap.objs.size ce sg m Hf ceL Ih qq hm (Id.fpOk (Nat.le_refl _) nC)
    · have ti := T.item (blkx X sd Hd scope ce fp) rfl rfl rfl hc i [] sf _ Hf (fun _ _ => False) If (fst If nf) tnf go
      refine thnF ti fun r sg ⟨u, hr, hsg⟩ => ?_
      subst hr
      refine thnF hsg fun _ sh ⟨x, Hh, Ih, rx, yx, tnh, nh⟩ => ?_
      have Ih' := Ih.pinned (fst Ih nh) (T.obj _ _ tnh)
      refine thn (pg.run _ sh _ Hh x u _ Ih' rx (stepx x Hh yx)) fun _ si ⟨σi, Hi, Ii, wpi, qi⟩ => ?_
      refine thn (pt.run _ si σi Hi _ Ii qi) fun b sj ⟨Hj, Ij, qj⟩ => ?_
      have ends : ∀ {s2 : Shared} {H2 : Hp}, Inv (blkx X sd Hd scope ce fp) ([] ++ pinsAt fp sh.heap) σi H2 s2 → Nx H2 → ∃ m, m < n ∧ ∃ i H2, Inv (blkx X sd Hd scope ce fp) [] (wipe σ (own.map (·.2))) H2 s2 ∧ tn i s2.heap ∧ (∀ c ∈ fp, H2 c = none) ∧ V0 i m H2 := fun {s2 H2} K nx => by
        obtain ⟨m', lm, vv⟩ := hNx H2 nx
        have pn : ∀ c ∈ fp, ∀ o, sh.heap.get? c = some o → s2.heap.get? c = some o ∧ H2 c = none := fun c hcm o z =>
          let y := K.pin (c, o) (List.mem_append_right _ (List.mem_append_right _ (mem_pinsAt hcm z)))
          ⟨y.1, y.2.1⟩
        have hl : (wipe σ (own.map (·.2))).length = σi.length := by rw [← wpi, wipe_length]
        refine ⟨m', lm, i + 1, H2, (K.unpinned (pins := [])).weak hl (fun j v z => ?_), T.keep _ _ _ tnh fun c hcm o z => (pn c hcm o z).1, fun c hcm => ?_, vv⟩
        · rw [← wpi] at z
          exact (wipe_some z).1
        · obtain ⟨o, z, _⟩ := T.obj _ _ tnh c hcm
          exact (pn c hcm o z).2
      cases b with
      | false =>
        simp only [Bool.false_eq_true, if_false] at qj ⊢
        exact ends Ij qj
      | true =>
        simp only [if_true] at qj ⊢
        refine thn (pe.run _ sj σi Hj _ Ij qj) fun z sk ⟨yv, Hk, Ik, rk, acc, hDk, hzk, nx⟩ => ?_
        exact app_ok (X := blkx X sd Hd scope ce fp) Ik hDk hzk rk fun sl Il => ends Il nx
  exact codeAny_compStart_list lp (T.self X.A 0 _ _ _ tne lp)
end RL

/-! RL42: comprehensions whose element may be refused: the refusal is told. -/
namespace RL
open PySem L2
def compX {α : Type} : List α → List D → (α → Res (Option D)) → Res (List D)
  | [], acc, _ => .ok acc
  | d :: r, acc, f => match f d with
    | .ok (some x) => if acc.length < sizeLine then compX r (acc ++ [x]) f else .stuck
    | .ok none => compX r acc f
    | .exc k => .exc k
    | .stuck => .stuck
theorem compX_cons {α : Type} {d : α} {r : List α} {acc : List D} {g : α → Res (Option D)} : compX (d :: r) acc g = match g d with
    | .ok (some x) => if acc.length < sizeLine then compX r (acc ++ [x]) g else .stuck
    | .ok none => compX r acc g
    | .exc k => .exc k
    | .stuck => .stuck := rfl
theorem wp_compX {d : D} {r : List D} {acc : List D} {g : D → Res (Option D)} {P : List D → Prop} {R : Str → Prop} (h : (compX (d :: r) acc g).wp P R) :
    (g d).wp (fun o => match o with
      | some x => acc.length < sizeLine ∧ (compX r (acc ++ [x]) g).wp P R
      | none => (compX r acc g).wp P R) R := by
  rw [compX_cons] at h
  cases q : g d with
  | ok o =>
    rw [q] at h
    cases o with
    | none => exact h
    | some x =>
      have h : (if acc.length < sizeLine then compX r (acc ++ [x]) g else .stuck).wp P R := h
      split at h
      · rename_i hl; exact ⟨hl, h⟩
      · exact h.elim
  | exc k => rw [q] at h; exact h
  | stuck => rw [q] at h; exact h
theorem wipeL_get (ρ : List Sl) : ∀ (vs : List Nat) (j : Nat), (wipeL ρ vs)[j]? = if j ∈ vs ∧ j < ρ.length then some .un else ρ[j]?
  | [], j => by simp [wipeL]
  | v :: vs, j => by
    have hlen : ∀ vs, (wipeL ρ vs).length = ρ.length := fun vs => by
      induction vs with
      | nil => rfl
      | cons a b ih => unfold wipeL; rw [List.length_set]; exact ih
    unfold wipeL
    by_cases h : v = j
    · subst h
      by_cases hl : v < ρ.length
      · rw [List.getElem?_set_self (by rw [hlen]; exact hl)]
        simp [hl]
      · rw [List.getElem?_eq_none (by rw [List.length_set, hlen]; omega)]
        simp [hl]
    · rw [List.getElem?_set_ne h, wipeL_get ρ vs j]
      have h' : ¬ j = v := fun z => h z.symm
      simp [h']
theorem setAll_ne : ∀ (is : List Nat) (ds : List D) (ρ : List Sl) (j : Nat), j ∉ is → (setAll ρ is ds)[j]? = ρ[j]?
  | [], _, _, _, _ => rfl
  | _ :: _, [], _, _, _ => rfl
  | i :: is, d :: ds, ρ, j, h => by
    show (setAll (ρ.set i (.is d)) is ds)[j]? = _
    rw [setAll_ne is ds _ j fun z => h (List.mem_cons_of_mem _ z), List.getElem?_set_ne fun z => h (by rw [z]; exact List.mem_cons_self)]
theorem setV_ne : ∀ (is : List Nat) (us : List V) (σ : St) (j : Nat), j ∉ is → (setV σ is us)[j]? = σ[j]?
  | [], _, _, _, _ => rfl
  | _ :: _, [], _, _, _ => rfl
  | i :: is, d :: ds, ρ, j, h => by
    show (setV (ρ.set i (some d)) is ds)[j]? = _
    rw [setV_ne is ds _ j fun z => h (List.mem_cons_of_mem _ z), List.getElem?_set_ne fun z => h (by rw [z]; exact List.mem_cons_self)]
section
variable {K : PySem.W.Frag} {S : Hp}
theorem slsOk_of : ∀ {ρ : List Sl} {σ : St}, σ.length = ρ.length → (∀ (i : Nat) s o, ρ[i]? = some s → σ[i]? = some o → slOk K S s o) → slsOk K S ρ σ
  | [], σ, hl, _ => List.length_eq_zero_iff.mp hl
  | s :: ρ, [], hl, _ => by simp at hl
  | s :: ρ, o :: σ, hl, h => ⟨o, σ, rfl, h 0 s o rfl rfl, slsOk_of (by simpa using hl) fun i s o a b => h (i + 1) s o (by simpa using a) (by simpa using b)⟩
theorem sls_back {ρ : List Sl} {σ : St} {own is : List Nat} {us : List V} {xs : List D} (hl : σ.length = ρ.length) (hw : wipeL ρ own = ρ) (hio : ∀ i ∈ is, i ∈ own) (h : slsOk K S (setAll (wipeL ρ own) is xs) (setV (wipe σ own) is us)) : slsOk K S ρ σ := by
  rw [hw] at h
  refine slsOk_of hl fun i s o hs ho => ?_
  by_cases hi : i ∈ own
  · have e := wipeL_get ρ own i
    rw [hw, if_pos ⟨hi, (List.getElem?_eq_some_iff.mp hs).1⟩, hs] at e
    cases e
    trivial
  · have hi2 : i ∉ is := fun z => hi (hio i z)
    have e1 := setAll_ne is xs ρ i hi2
    have e2 := setV_ne is us (wipe σ own) i hi2
    rw [wipe_get, if_neg (fun z => hi z.1)] at e2
    obtain ⟨o', z1, z2⟩ := h.get (e1.trans hs)
    rw [e2, ho] at z1
    cases z1
    exact z2
end
section
variable {F : Fr} {ρ : List Sl} {Γ : Ga} {tg iter elt : Expr} {ifs : List Expr} {scope : Scope} {own : List (Str × Nat)} {pos : Pos} {mi : Res (List D)} {f : D → Res (List D)} {is : List Nat}
  {mt : List D → Res Bool} {me : List D → Res D}
abbrev Tkx (F : Fr) (σ0 : St) (s : Shared) (H : Hp) (scope : Scope) (C : Addr) (cl : List (Str × Addr)) (fp : List Addr) : Prop := Takes (blkx F.X s H scope (compEnvC scope cl C F.X.env) fp) (fun c d _ h => F.W c d σ0 h)
abbrev Fr.bx (F : Fr) (σ0 : St) (s : Shared) (H : Hp) (scope : Scope) (C : Addr) (cl : List (Str × Addr)) (fp : List Addr) (tk : Tkx F σ0 s H scope C cl fp) : Fr :=
  { X := blkx F.X s H scope (compEnvC scope cl C F.X.env) fp, W := fun c d _ h => F.W c d σ0 h, en := F.en, tk := tk }
def gBx (F : Fr) (σ0 : St) (scope : Scope) (tg : Expr) : TG := fun v σ H Q => ∀ s H0 C cl fp, Tkx F σ0 s H0 scope C cl fp → Wg (blkx F.X s H0 scope (compEnvC scope cl C F.X.env) fp) tg v σ H Q
def eBx (F : Fr) (σ0 : St) (scope : Scope) (e : Expr) : TE := fun σ H Q => ∀ s H0 C cl fp, Tkx F σ0 s H0 scope C cl fp → We (blkx F.X s H0 scope (compEnvC scope cl C F.X.env) fp) e σ H Q
def tBx (F : Fr) (σ0 : St) (scope : Scope) (e : Expr) : TT := fun σ H Q => ∀ s H0 C cl fp, Tkx F σ0 s H0 scope C cl fp → Wt (blkx F.X s H0 scope (compEnvC scope cl C F.X.env) fp) e σ H Q
def tsBx (F : Fr) (σ0 : St) (scope : Scope) : List Expr → TT
  | [] => tYes
  | c :: _ => tBx F σ0 scope c
theorem xw_blk {σ : St} {q : Addr} {acc : List D} {xs : List D} {us : List V} {k : Str} (hl : σ.length = ρ.length) (hw : wipeL ρ (own.map (·.2)) = ρ) (hio : ∀ i ∈ is, i ∈ own.map (·.2)) (h : Xw F ρ Γ σ k) {s : Shared} {H0 : Hp} {C : Addr} {cl : List (Str × Addr)} {fp : List Addr}
    {tk : Tkx F σ s H0 scope C cl fp} : Xw (F.bx σ s H0 scope C cl fp tk) (setAll (wipeL ρ (own.map (·.2))) is xs) ((q, .lst acc) :: Γ) (setV (wipe σ (own.map (·.2))) is us) k := fun S' H' s' =>
  h S' H' ⟨⟨s'.hg.hp, s'.hg.ga.fewer (List.sublist_cons_self _ _)⟩, sls_back hl hw hio s'.sl⟩
theorem lc_WX {S H σ} {Q : VK} (hi : Ei F ρ Γ tg iter mi) (s : StOk F.X.K F.en S H σ ρ Γ) (hw : wipeL ρ (own.map (·.2)) = ρ)
    (ht : ∀ s H0 C cl fp tk, Tj (F.bx σ s H0 scope C cl fp tk) tg f is) (hts : ∀ xs s H0 C cl fp tk q acc, TsB (F.bx σ s H0 scope C cl fp tk) (setAll (wipeL ρ (own.map (·.2))) is xs) ((q, .lst acc) :: Γ) ifs (mt xs))
    (hel : ∀ xs s H0 C cl fp tk q acc, E (F.bx σ s H0 scope C cl fp tk) (setAll (wipeL ρ (own.map (·.2))) is xs) ((q, .lst acc) :: Γ) elt (me xs))
    (hio : ∀ i ∈ is, i ∈ own.map (·.2))
    (w : (mi.bind fun ds => compX ds [] (elM f mt me)).wp (fun l => ∀ p S' H', p ∉ F.en.O → Sub S S' → StOk F.X.K F.en S' H' σ ρ ((p, .lst l) :: Γ) → Q (.ref p) H') (Xw F ρ Γ σ)) :
    ∃ wi, PI F.X tg iter wi ∧ tLc wi (gBx F σ scope tg) (tsBx F σ scope ifs) (eBx F σ scope elt) (own.map (·.2)) σ H Q := by
  have hl := s.sl.len
  refine hi S H σ _ s (Res.wp_mono (Res.wp_bind w) (fun ds w1 J G Y S1 H1 u1 s1 W gG yY q hq => ?_) fun _ z => z)
  have n := s1.hg.no hq
  refine lc_it W (fun i H => ∃ l S2, Sub S1 S2 ∧ StOk F.X.K F.en S2 H σ ρ ((q, .lst l) :: Γ) ∧ (compX (ds.drop i) l (elM f mt me)).wp (fun l => ∀ p S' H', p ∉ F.en.O → Sub S S' → StOk F.X.K F.en S' H' σ ρ ((p, .lst l) :: Γ) → Q (.ref p) H') (Xw F ρ Γ σ))
    ⟨[], S1, Sub.refl S1, s1.own hq ⟨[], rfl, reps_nil⟩, w1⟩ (fun i H _ ⟨l, S2, u2, s2, _⟩ => gG S2 H _ u2 s2.hg) ?_ ?_
  · rintro i x H2 H3 hi2 ⟨l, S2, u2, s2, w2⟩ y
    obtain ⟨S3, d, u3, g3, hd, rd⟩ := yY i x S2 H2 H3 _ hi2 u2 s2.hg y
    have s3 := s2.mk' u3 g3
    have sb : StOk F.X.K F.en S3 H3 (wipe σ (own.map (·.2))) (wipeL ρ (own.map (·.2))) ((q, .lst l) :: Γ) := ⟨s3.hg, wipeL_ok s3.sl _⟩
    have e : ds.drop i = d :: ds.drop (i + 1) := by
      obtain ⟨h1, h2⟩ := List.getElem?_eq_some_iff.mp hd
      rw [List.drop_eq_getElem_cons h1, h2]
    rw [e] at w2
    intro s' H0 C cl fp tk
    refine ht s' H0 C cl fp tk S3 H3 _ x d _ _ _ (Xw F ρ Γ σ) sb rd (Res.wp_mono (Res.wp_bind (wp_compX w2)) (fun xs w4 us s4 => ⟨by rw [wipe_setV _ is us _ hio, wipe_wipe], ?_⟩) fun _ z => z)
    have w5 := Res.wp_bind w4
    have fin : ∀ (b : Bool) (S5 : Hp) (H5 : Hp), Sub S3 S5 → StOk F.X.K F.en S5 H5 (setV (wipe σ (own.map (·.2))) is us) (setAll (wipeL ρ (own.map (·.2))) is xs) ((q, .lst l) :: Γ) →
        ((if b = true then (me xs).bind fun y => .ok (some y) else .ok none : Res (Option D)).wp (fun o => match o with
          | some x => l.length < sizeLine ∧ (compX (ds.drop (i + 1)) (l ++ [x]) (elM f mt me)).wp (fun l => ∀ p S' H', p ∉ F.en.O → Sub S S' → StOk F.X.K F.en S' H' σ ρ ((p, .lst l) :: Γ) → Q (.ref p) H') (Xw F ρ Γ σ)
          | none => (compX (ds.drop (i + 1)) l (elM f mt me)).wp (fun l => ∀ p S' H', p ∉ F.en.O → Sub S S' → StOk F.X.K F.en S' H' σ ρ ((p, .lst l) :: Γ) → Q (.ref p) H') (Xw F ρ Γ σ)) (Xw F ρ Γ σ)) →
        if b = true then eBx F σ scope elt (setV (wipe σ (own.map (·.2))) is us) H5 fun y H4 => ∃ acc, H4 q = some (.lst acc) ∧ acc.length < sizeLine ∧
            (fun i H => ∃ l S2, Sub S1 S2 ∧ StOk F.X.K F.en S2 H σ ρ ((q, .lst l) :: Γ) ∧ (compX (ds.drop i) l (elM f mt me)).wp (fun l => ∀ p S' H', p ∉ F.en.O → Sub S S' → StOk F.X.K F.en S' H' σ ρ ((p, .lst l) :: Γ) → Q (.ref p) H') (Xw F ρ Γ σ)) (i + 1) (upd H4 q (.lst (acc ++ [y])))
          else (fun i H => ∃ l S2, Sub S1 S2 ∧ StOk F.X.K F.en S2 H σ ρ ((q, .lst l) :: Γ) ∧ (compX (ds.drop i) l (elM f mt me)).wp (fun l => ∀ p S' H', p ∉ F.en.O → Sub S S' → StOk F.X.K F.en S' H' σ ρ ((p, .lst l) :: Γ) → Q (.ref p) H') (Xw F ρ Γ σ)) (i + 1) H5 := fun b S5 H5 u5 s5 w6 => by
      have back : ∀ (S6 H6 : Hp) (l' : List D), Sub S3 S6 → Hg F.X.K F.en S6 H6 ((q, .lst l') :: Γ) → StOk F.X.K F.en S6 H6 σ ρ ((q, .lst l') :: Γ) := fun S6 H6 l' u6 g6 => ⟨g6, s3.sl.mono u6⟩
      cases b with
      | false =>
        rw [if_neg Bool.false_ne_true]
        exact ⟨l, S5, u2.trans (u3.trans u5), back S5 H5 l u5 s5.hg, w6⟩
      | true =>
        rw [if_pos rfl]
        intro s7 H7 C7 cl7 fp7 tk7
        refine hel xs s7 H7 C7 cl7 fp7 tk7 q l S5 H5 _ _ s5 (Res.wp_mono (Res.wp_bind w6) (fun y w7 v S8 H8 u8 s8 r8 => ?_) fun k z => xw_blk hl hw hio z)
        obtain ⟨hl, w8⟩ := w7
        obtain ⟨_, _, o1, h5, vs1, rfl, rs1⟩ := s8.hg.ga.ce q _ List.mem_cons_self
        refine ⟨vs1, h5, by rw [reps_len rs1]; exact hl, l ++ [y], S8, u2.trans (u3.trans (u5.trans u8)), ?_, w8⟩
        exact back S8 _ _ (u5.trans u8) (s8.hg.write (i := 0) (c' := .lst (l ++ [y])) rfl ⟨_, rfl, reps_app rs1 (reps_one r8)⟩)
    cases ifs with
    | nil =>
      rcases hts xs s' H0 C cl fp tk q l with ⟨_, e2⟩ | ⟨c, e2, _⟩
      · rw [e2] at w5
        exact fin true S3 H3 (Sub.refl S3) s4 w5
      · cases e2
    | cons c r =>
      intro s7 H7 C7 cl7 fp7 tk7
      rcases hts xs s7 H7 C7 cl7 fp7 tk7 q l with ⟨e1, _⟩ | ⟨c', e1, ht'⟩
      · cases e1
      · cases e1
        exact ht' S3 H3 _ _ s4 (Res.wp_mono w5 (fun b w6 S5 H5 u5 s5 => fin b S5 H5 u5 s5 w6) fun k z => xw_blk hl hw hio z)
  · rintro H2 ⟨l, S2, u2, s2, w2⟩
    rw [List.drop_length] at w2
    exact w2 q S2 H2 n (u1.trans u2) s2
theorem ef_lcX (hc : F.X.calm = true) (hN : F.X.N.Nodup) (ok : BlkOk F.X.N F.X.env.scope scope own) (hi : Ei F ρ Γ tg iter mi) (hw : wipeL ρ (own.map (·.2)) = ρ)
    (ht : ∀ σ s H0 C cl fp tk, Tj (F.bx σ s H0 scope C cl fp tk) tg f is) (hts : ∀ σ xs s H0 C cl fp tk q acc, TsB (F.bx σ s H0 scope C cl fp tk) (setAll (wipeL ρ (own.map (·.2))) is xs) ((q, .lst acc) :: Γ) ifs (mt xs))
    (hel : ∀ σ xs s H0 C cl fp tk q acc, E (F.bx σ s H0 scope C cl fp tk) (setAll (wipeL ρ (own.map (·.2))) is xs) ((q, .lst acc) :: Γ) elt (me xs)) (hio : ∀ i ∈ is, i ∈ own.map (·.2)) (hif : ifs = [] ∨ ∃ c, ifs = [c])
    (hst : F.X.stack = F.X.env :: F.X.outer := by rfl) (hfm : F.X.env.frame = some F.X.env.locals := by rfl) (hs : ∀ x, foldedSetIterable iter F.X.env x = pure x := by intro _; rfl) :
    EF F ρ Γ Ce.lst (.ListComp elt [⟨tg, iter, ifs, 0⟩] scope pos) (mi.bind fun ds => compX ds [] (elM f mt me)) := fun S H σ Q s w => by
  obtain ⟨wi, pi, q⟩ := lc_WX (own := own) (Q := Q) hi s hw (ht σ) (hts σ) (hel σ) hio w
  refine ⟨fun pins sa I => ?_⟩
  rw [eval_ListComp]
  refine lc_coreX (W := F.W) hc hN hst hfm F.tk I pi ok (fun _ _ _ _ _ tk => ⟨fun _ _ _ _ _ _ _ I2 r h => (h _ _ _ _ _ tk).run _ _ _ I2 r⟩) (fun _ _ _ _ _ tk => ?_) (fun _ _ _ _ _ tk => ⟨fun _ _ _ _ _ I2 h => (h _ _ _ _ _ tk).run _ _ I2⟩) hs q fun D C ce se m He eC I' q hn fo => ?_
  · rcases hif with rfl | ⟨c, rfl⟩
    · exact pts_nil
    · exact pts_one ⟨fun _ _ _ _ _ I2 h => (h _ _ _ _ _ tk).run _ _ I2⟩
  · obtain ⟨f0, f1, f2, f3, f4, f5⟩ := fo
    refine ⟨m, by rw [eC]; exact hn, fun h2 sb => ?_⟩
    rw [eC] at sb
    exact ⟨.ref D, He, I'.turned (t' := se.toks) (fun b o hb e => (sb.2 b hb).trans e) f0 f1 f3 f4 f5, rfl, q⟩
end
section
variable {τ τ' β κ : Type} {F : FrS} {o : τ → Al → List Sl × Ga} {ob : β → Al → List Sl × Ga} {oc : κ → Al → Ga} {ρ : List Sl} {Γ : Ga} {rest sts : List Stmt} {ks : List (List Stmt)} {pos : Pos} {is : List Nat} {e : Expr} {x : Str}
/-- y = [.. for ..], the list a cell from then on; a refusal within is told -/
theorem s_setLcX {i : Nat} {pos' cpos : Pos} {tg iter elt : Expr} {ifs : List Expr} {scope : Scope} {own : List (Str × Nat)} {mi : Res (List D)} {f : D → Res (List D)} {mt : List D → Res Bool} {me : List D → Res D} {mr : List D → Res (Fl τ β κ)}
    (ok : BlkOk F.X.N F.X.env.scope scope own) (hi : Ei F.toFr ρ Γ tg iter mi) (hw : wipeL ρ (own.map (·.2)) = ρ)
    (ht : ∀ σ s H0 C cl fp tk, Tj (F.toFr.bx σ s H0 scope C cl fp tk) tg f is) (hts : ∀ σ xs s H0 C cl fp tk q acc, TsB (F.toFr.bx σ s H0 scope C cl fp tk) (setAll (wipeL ρ (own.map (·.2))) is xs) ((q, .lst acc) :: Γ) ifs (mt xs))
    (hel : ∀ σ xs s H0 C cl fp tk q acc, E (F.toFr.bx σ s H0 scope C cl fp tk) (setAll (wipeL ρ (own.map (·.2))) is xs) ((q, .lst acc) :: Γ) elt (me xs)) (hio : ∀ i ∈ is, i ∈ own.map (·.2)) (hif : ifs = [] ∨ ∃ c, ifs = [c])
    (hr : ∀ c q, q ∉ F.en.O → SJ F o ob oc rest ks (ρ.set i (.at q)) ((q, .lst c) :: Γ) (mr c)) (hc : F.X.calm = true) (hN : F.X.N.Nodup) (ha : F.al ρ Γ) (hy : F.X.N[i]? = some x) (hyl : F.X.env.scope.names.lookup x = some .local)
    (hsw : swapsWith (.ListComp elt [⟨tg, iter, ifs, 0⟩] scope cpos) (some (.Name x pos')) pos.line F.X.env = pure true) (hst : F.X.stack = F.X.env :: F.X.outer := by rfl) (hfm : F.X.env.frame = some F.X.env.locals := by rfl) (hs : ∀ x, foldedSetIterable iter F.X.env x = pure x := by intro _; rfl) :
    SJ F o ob oc (.Assign [.Name x pos'] (.ListComp elt [⟨tg, iter, ifs, 0⟩] scope cpos) pos :: rest) ks ρ Γ ((mi.bind fun ds => compX ds [] (elM f mt me)).bind mr) := fun S H σ D s w => by
  obtain ⟨wi, pi, q⟩ := lc_WX (own := own) (Q := fun v H1 => gName i v σ H1 (WSs F.X rest { D with nx := Wks F.X ks D })) hi s hw (ht σ) (hts σ) (hel σ) hio (Res.wp_mono (Res.wp_bind w) (fun c w1 q S1 H1 n u1 s1 => (hr c q n).run ⟨s1.hg, s1.sl.set i rfl⟩ u1 w1) fun _ z => xw_of ha z)
  have ps : ∀ D, (fun (D : Ends) (σ : St) (H : Hp) => tLc wi (gBx F.toFr σ scope tg) (tsBx F.toFr σ scope ifs) (eBx F.toFr σ scope elt) (own.map (·.2)) σ H fun v H1 => gName i v σ H1 D.nx) D σ H →
      ∀ pins sa, Inv F.X pins σ H sa → wpAny (model F.X.prog F.X.w) F.X.A (exec (.Assign [.Name x pos'] (.ListComp elt [⟨tg, iter, ifs, 0⟩] scope cpos) pos) F.X.env) (SP F.X pins D) F.X.xe sa := by
    intro D h pins sa I
    rw [exec_Assign_Name_used _ _ _ _ hsw]
    refine wpAny_bind (wpAny_standAt (wpAny_bind ?_))
    show wpAny _ F.X.A (do let _ ← comprehension (.ListComp elt [⟨tg, iter, ifs, 0⟩] scope cpos) scope F.X.env (firstIterPos [⟨tg, iter, ifs, 0⟩] cpos) (newList []) false (eval iter F.X.env) (some (assign (.Name x pos') F.X.env))) _ _ sa
    refine wpAny_bind (thn (lc_coreX (W := F.W) (Qf := fun _ s2 => SP F.X pins D .next s2) hc hN hst hfm F.tk I pi ok (fun _ _ _ _ _ tk => ⟨fun _ _ _ _ _ _ _ I2 r h => (h _ _ _ _ _ tk).run _ _ _ I2 r⟩) (fun _ _ _ _ _ tk => ?_) (fun _ _ _ _ _ tk => ⟨fun _ _ _ _ _ I2 h => (h _ _ _ _ _ tk).run _ _ I2⟩) hs h fun L C ce se m He eC I2 q2 hn fo => ?_) fun _ s2 hq => wpAny_pure (wpAny_pure hq))
    · rcases hif with rfl | ⟨c, rfl⟩
      · exact pts_nil
      · exact pts_one ⟨fun _ _ _ _ _ I2 h => (h _ _ _ _ _ tk).run _ _ I2⟩
    · show wpAny _ _ (assign (.Name x pos') F.X.env (.ref L)) _ _ _
      refine wpAny_assign_Name (store_ok2 (v := V.ref L) I2 hN hy (.inl hyl) rfl (fun s3 I3 ⟨a, sb, za⟩ => ?_) (.inr hyl))
      obtain ⟨f0, f1, f2, f3, f4, f5⟩ := fo
      have Ca : C ≠ a := by
        rcases za with z | z
        · rw [z]; exact f1
        · exact fun e => f4 x a z e.symm
      refine ⟨m, by rw [eC]; exact hn.sameBut sb Ca, fun h3 sb3 => ?_⟩
      rw [eC] at sb3
      exact ⟨_, He, I3.turned (t' := s3.toks) (fun b o hb e => (sb3.2 b hb).trans e) f0 f1 f3 f4 f5, q2⟩
  refine WSs.of (pss_cons (t := fun D' σ' H' => σ' = σ ∧ H' = H ∧ tLc wi (gBx F.toFr σ scope tg) (tsBx F.toFr σ scope ifs) (eBx F.toFr σ scope elt) (own.map (·.2)) σ H fun v H1 => gName i v σ H1 D'.nx) ⟨fun pins sa σ' H' D' I h => ?_⟩ pss_W) ⟨rfl, rfl, q⟩
  obtain ⟨rfl, rfl, h⟩ := h
  exact ps D' h pins sa I
end
end RL

/-! RM1: evaluating mirrors; loops. -/
namespace RL
open PySem L2
/-! ### operations on data in normal form -/
@[simp] theorem v_addI (i j : Int) : D.add (.int i) (.int j) = .ok (.int (i + j)) := id rfl
@[simp] theorem v_addI' (i j : Int) : D.addI (.int i) (.int j) = .ok (.int (i + j)) := id rfl
@[simp] theorem v_sub (i j : Int) : D.sub (.int i) (.int j) = .ok (.int (i - j)) := id rfl
@[simp] theorem v_mul (i j : Int) : D.mul (.int i) (.int j) = if D.mulOk i j = true then .ok (.int (i * j)) else .stuck := id rfl
@[simp] theorem v_fdiv (i j : Int) : D.fdiv (.int i) (.int j) = if 0 < j ∧ j < 1073741824 then .ok (.int (i / j)) else .stuck := id rfl
@[simp] theorem v_mod (i j : Int) : D.mod (.int i) (.int j) = if 0 < j then .ok (.int (i % j)) else .stuck := id rfl
@[simp] theorem v_lt (i j : Int) : D.lt (.int i) (.int j) = .ok (.bl (decide (i < j))) := id rfl
@[simp] theorem v_le (i j : Int) : D.le (.int i) (.int j) = .ok (.bl (decide (i ≤ j))) := id rfl
@[simp] theorem v_gt (i j : Int) : D.gt (.int i) (.int j) = .ok (.bl (decide (j < i))) := id rfl
@[simp] theorem v_ge (i j : Int) : D.ge (.int i) (.int j) = .ok (.bl (decide (j ≤ i))) := id rfl
@[simp] theorem v_eqI (i j : Int) : D.eq (.int i) (.int j) = .ok (.bl (decide (i = j))) := id rfl
@[simp] theorem v_neI (i j : Int) : D.ne (.int i) (.int j) = .ok (.bl (!decide (i = j))) := id rfl
@[simp] theorem v_eqS (i j : Str) : D.eq (.str i) (.str j) = .ok (.bl (decide (i = j))) := id rfl
@[simp] theorem v_neS (i j : Str) : D.ne (.str i) (.str j) = .ok (.bl (!decide (i = j))) := id rfl
@[simp] theorem v_eqB (i j : Bool) : D.eq (.bl i) (.bl j) = .ok (.bl (decide (i = j))) := id rfl
@[simp] theorem v_neB (i j : Bool) : D.ne (.bl i) (.bl j) = .ok (.bl (!decide (i = j))) := id rfl
@[simp] theorem v_neg (i : Int) : D.neg (.int i) = .ok (.int (-i)) := id rfl
@[simp] theorem v_asB (c : Bool) : asB (.bl c) = .ok c := id rfl
@[simp] theorem v_asI (i : Int) : asI (.int i) = .ok (some i) := id rfl
@[simp] theorem v_ap1 (f : D → Res D) (d : D) : ap1 f [d] = f d := id rfl
@[simp] theorem v_ap2 (f : D → D → Res D) (d e : D) : ap2 f [d, e] = f d e := id rfl
@[simp] theorem v_a1 (m : D → Me) (a : D) : a1 m [a] = m a := id rfl
@[simp] theorem v_a2 (m : D → D → Me) (a b : D) : a2 m [a, b] = m a b := id rfl
@[simp] theorem v_a3 (m : D → D → D → Me) (a b c : D) : a3 m [a, b, c] = m a b c := id rfl
@[simp] theorem v_a4 (m : D → D → D → D → Me) (a b c d : D) : a4 m [a, b, c, d] = m a b c d := id rfl
@[simp] theorem v_a5 (m : D → D → D → D → D → Me) (a b c d e : D) : a5 m [a, b, c, d, e] = m a b c d e := id rfl
@[simp] theorem v_a6 (m : D → D → D → D → D → D → Me) (a b c d e f : D) : a6 m [a, b, c, d, e, f] = m a b c d e f := id rfl
@[simp] theorem v_told_rt (d : D) (u : Unit) : told (.ok (.rt d u)) = .ok d := id rfl
@[simp] theorem v_told_nx (u : Unit) : told (.ok (.nx u)) = .ok .non := id rfl
@[simp] theorem v_told_exc (k : Str) : told (.exc k) = .exc k := id rfl
@[simp] theorem v_at_nx {τ τ' β κ : Type} (t : τ) (f : τ → Res (Fl τ' β κ)) : andThen (.ok (.nx t)) f = f t := id rfl
@[simp] theorem v_at_rt {τ τ' β κ : Type} (d : D) (c : κ) (f : τ → Res (Fl τ' β κ)) : andThen (.ok (.rt d c)) f = .ok (.rt d c) := id rfl
@[simp] theorem v_at_exc {τ τ' β κ : Type} (k : Str) (f : τ → Res (Fl τ' β κ)) : andThen (.exc k) f = .exc k := id rfl
@[simp] theorem v_at_ct {τ τ' β κ : Type} (t : β) (f : τ → Res (Fl τ' β κ)) : andThen (.ok (.ct t)) f = .ok (.ct t) := id rfl
@[simp] theorem v_at_bk {τ τ' β κ : Type} (t : β) (f : τ → Res (Fl τ' β κ)) : andThen (.ok (.bk t)) f = .ok (.bk t) := id rfl
@[simp] theorem v_one (d : D) : one d = .ok [d] := id rfl
@[simp] theorem v_un1 {α : Type} (g : D → Res α) (a : D) : un1 g [a] = g a := id rfl
@[simp] theorem v_un2 {α : Type} (g : D → D → Res α) (a b : D) : un2 g [a, b] = g a b := id rfl
@[simp] theorem v_un3 {α : Type} (g : D → D → D → Res α) (a b c : D) : un3 g [a, b, c] = g a b c := id rfl
@[simp] theorem v_untup2 (a b : D) : untup 2 (.tup [a, b]) = .ok [a, b] := id rfl
@[simp] theorem v_untup3 (a b c : D) : untup 3 (.tup [a, b, c]) = .ok [a, b, c] := id rfl
@[simp] theorem v_untupL2 (a b : D) : untup 2 (.lst [a, b]) = .ok [a, b] := id rfl
@[simp] theorem v_untupL3 (a b c : D) : untup 3 (.lst [a, b, c]) = .ok [a, b, c] := id rfl
@[simp] theorem v_items_lst (l : List D) : D.items (.lst l) = .ok l := id rfl
@[simp] theorem v_items_tup (l : List D) : D.items (.tup l) = .ok l := id rfl
@[simp] theorem v_items_scr (l : List Int) : D.items (.scr l) = .ok (l.map D.int) := id rfl
@[simp] theorem v_len_lst (l : List D) : D.len (.lst l) = .ok (.int l.length) := id rfl
@[simp] theorem v_len_tup (l : List D) : D.len (.tup l) = .ok (.int l.length) := id rfl
@[simp] theorem v_len_scr (l : List Int) : D.len (.scr l) = .ok (.int l.length) := id rfl
@[simp] theorem v_enum (l : List D) : D.enum (.lst l) = .ok (l.zipIdx.map fun p => .tup [.int (p.2 : Nat), p.1]) := id rfl
@[simp] theorem v_revs (l : List D) : D.revs (.lst l) = .ok l.reverse := id rfl
@[simp] theorem v_toLst (l : List D) : D.toLst (.lst l) = .ok (.lst l) := id rfl
@[simp] theorem v_toLstT (l : List D) : D.toLst (.tup l) = .ok (.lst l) := id rfl
@[simp] theorem v_toTup (l : List D) : D.toTup (.lst l) = .ok (.tup l) := id rfl
@[simp] theorem v_toTupT (l : List D) : D.toTup (.tup l) = .ok (.tup l) := id rfl
theorem sizeLine_val : sizeLine = 16777216 := rfl
theorem v_mkTup {l : List D} (h : l.length ≤ 16777216) : mkTup l = .ok (.tup l) := if_pos h
theorem v_mkLst {l : List D} (h : l.length ≤ 16777216) : mkLst l = .ok (.lst l) := if_pos h
@[simp] theorem v_mkTup2 (a b : D) : mkTup [a, b] = .ok (.tup [a, b]) := id rfl
@[simp] theorem v_mkTup3 (a b c : D) : mkTup [a, b, c] = .ok (.tup [a, b, c]) := id rfl
@[simp] theorem v_mkTup1 (a : D) : mkTup [a] = .ok (.tup [a]) := id rfl
@[simp] theorem v_mkTup0 : mkTup [] = .ok (.tup []) := id rfl
@[simp] theorem v_mkLst0 : mkLst [] = .ok (.lst []) := id rfl
@[simp] theorem v_mkLst1 (a : D) : mkLst [a] = .ok (.lst [a]) := id rfl
@[simp] theorem v_mkLst2 (a b : D) : mkLst [a, b] = .ok (.lst [a, b]) := id rfl
@[simp] theorem v_mkLst3 (a b c : D) : mkLst [a, b, c] = .ok (.lst [a, b, c]) := id rfl
@[simp] theorem v_mkLstC0 : mkLstC [] = .ok [] := id rfl
@[simp] theorem v_ixL (l : List D) (i : Int) : D.ix (.lst l) (.int i) = .ofOpt (atI l i) := id rfl
@[simp] theorem v_ixT (l : List D) (i : Int) : D.ix (.tup l) (.int i) = .ofOpt (atI l i) := id rfl
@[simp] theorem v_ixSc (l : List Int) (i : Int) : D.ix (.scr l) (.int i) = .ofOpt ((atI l i).map D.int) := id rfl
@[simp] theorem v_isT_int (i : Int) (T : String) : D.isT T (.int i) = match kitB "int" T with
    | some c => .ok (.bl c)
    | none => .stuck := id rfl
@[simp] theorem v_ofOpt_some {α : Type} (a : α) : Res.ofOpt (some a) = .ok a := id rfl
/-- an index within -/
theorem atI_nat {α : Type} {l : List α} {i : Nat} : atI l (i : Int) = l[i]? := by
  unfold atI ixN
  by_cases h : i < l.length
  · simp [h]
  · simp [h]
theorem atI_0 {α : Type} (l : List α) : atI l 0 = l[0]? := atI_nat (i := 0)
theorem atI_1 {α : Type} (l : List α) : atI l 1 = l[1]? := atI_nat (i := 1)
theorem atI_2 {α : Type} (l : List α) : atI l 2 = l[2]? := atI_nat (i := 2)
theorem atI_3 {α : Type} (l : List α) : atI l 3 = l[3]? := atI_nat (i := 3)
theorem mulOk_r {i j : Int} (h : j.natAbs < 18446744073709551616) : D.mulOk i j = true := by
  unfold D.mulOk
  rw [Bool.or_eq_true]; exact .inr (decide_eq_true h)
theorem mulOk_l {i j : Int} (h : i.natAbs < 18446744073709551616) : D.mulOk i j = true := by
  unfold D.mulOk
  rw [Bool.or_eq_true]; exact .inl (decide_eq_true h)
theorem v_mulR {i j : Int} (h : j.natAbs < 18446744073709551616) : D.mul (.int i) (.int j) = .ok (.int (i * j)) := by
  rw [v_mul, if_pos (mulOk_r h)]
theorem v_mulL {i j : Int} (h : i.natAbs < 18446744073709551616) : D.mul (.int i) (.int j) = .ok (.int (i * j)) := by
  rw [v_mul, if_pos (mulOk_l h)]
theorem v_modP {i j : Int} (h : 0 < j) : D.mod (.int i) (.int j) = .ok (.int (i % j)) := if_pos h
theorem v_fdivP {i j : Int} (h : 0 < j) (h2 : j < 1073741824) : D.fdiv (.int i) (.int j) = .ok (.int (i / j)) := if_pos ⟨h, h2⟩
def D.toN : D → Nat
  | .int i => i.toNat
  | _ => 0
@[simp] theorem toN_int (n : Nat) : D.toN (.int (n : Int)) = n := Int.toNat_natCast n
/-! ### bits -/
theorem bor_nat (a b : Nat) : Builtin.bitOr (a : Int) (b : Int) = ((a ||| b : Nat) : Int) := by
  unfold Builtin.bitOr Builtin.bitAnd Builtin.bitNot
  have h1 : decide (0 ≤ -(a : Int) - 1) = false := by simp; omega
  have h2 : decide (0 ≤ -(b : Int) - 1) = false := by simp; omega
  rw [h1, h2]
  have e1 : (-(-(a : Int) - 1) - 1).toNat = a := by omega
  have e2 : (-(-(b : Int) - 1) - 1).toNat = b := by omega
  simp only [e1, e2]
  omega
theorem v_band (a b : Nat) : D.band (.int (a : Int)) (.int (b : Int)) = .ok (.int ((a &&& b : Nat) : Int)) := by
  show Res.ok (D.int (Builtin.bitAnd _ _)) = _
  rw [PySem.W.os_band]
theorem v_bor (a b : Nat) : D.bor (.int (a : Int)) (.int (b : Int)) = .ok (.int ((a ||| b : Nat) : Int)) := by
  show Res.ok (D.int (Builtin.bitOr _ _)) = _
  rw [bor_nat]
theorem or_and_add : ∀ (n a b : Nat), a < n → (a ||| b) + (a &&& b) = a + b
  | 0, _, _, h => absurd h (Nat.not_lt_zero _)
  | n + 1, a, b, h => by
    by_cases h0 : a = 0
    · subst h0; simp
    · have ih := or_and_add n (a / 2) (b / 2) (by omega)
      have e1 : (a ||| b) / 2 = a / 2 ||| b / 2 := Nat.or_div_two
      have e2 : (a &&& b) / 2 = a / 2 &&& b / 2 := Nat.and_div_two
      have m1 : (a ||| b) % 2 = 1 ↔ a % 2 = 1 ∨ b % 2 = 1 := Nat.or_mod_two_eq_one
      have m2 : (a &&& b) % 2 = 1 ↔ a % 2 = 1 ∧ b % 2 = 1 := Nat.and_mod_two_eq_one
      omega
theorem xor_and_or (a b : Nat) : (a ^^^ b) + (a &&& b) = a ||| b := by
  have h := or_and_add ((a ^^^ b) + 1) (a ^^^ b) (a &&& b) (by omega)
  have hd : (a ^^^ b) &&& (a &&& b) = 0 := by
    apply Nat.eq_of_testBit_eq; intro i
    simp only [Nat.testBit_and, Nat.testBit_xor, Nat.zero_testBit]
    cases a.testBit i <;> cases b.testBit i <;> rfl
  have ho : (a ^^^ b) ||| (a &&& b) = a ||| b := by
    apply Nat.eq_of_testBit_eq; intro i
    simp only [Nat.testBit_and, Nat.testBit_xor, Nat.testBit_or]
    cases a.testBit i <;> cases b.testBit i <;> rfl
  omega
theorem bxor_nat (a b : Nat) : Builtin.bitXor (a : Int) (b : Int) = ((a ^^^ b : Nat) : Int) := by
  unfold Builtin.bitXor
  rw [bor_nat, PySem.W.os_band]
  have h := xor_and_or a b
  omega
theorem v_bxor (a b : Nat) : D.bxor (.int (a : Int)) (.int (b : Int)) = .ok (.int ((a ^^^ b : Nat) : Int)) := by
  show Res.ok (D.int (Builtin.bitXor _ _)) = _
  rw [bxor_nat]
theorem v_shl (a k : Nat) (hk : k ≤ 1000000) (ha : a < 18446744073709551616) : D.shl (.int (a : Int)) (.int (k : Int)) = .ok (.int ((a <<< k : Nat) : Int)) := by
  unfold D.shl
  simp only
  rw [if_pos ⟨by omega, by omega, by omega⟩, Nat.shiftLeft_eq]
  simp
theorem v_shl1 (k : Nat) (hk : k ≤ 1000000) : D.shl (.int 1) (.int (k : Int)) = .ok (.int ((2 ^ k : Nat) : Int)) := by
  have h := v_shl 1 k hk (by decide)
  rw [Nat.one_shiftLeft] at h
  exact h
theorem v_shr (a k : Nat) : D.shr (.int (a : Int)) (.int (k : Int)) = .ok (.int ((a >>> k : Nat) : Int)) := by
  unfold D.shr
  simp only
  rw [if_pos (by omega), Nat.shiftRight_eq_div_pow]
  simp
/-- is bit k set? -/
theorem v_bit (a k : Nat) : ((D.shr (.int (a : Int)) (.int (k : Int))).bind fun x => D.band x (.int 1)) = .ok (.int (if a.testBit k then 1 else 0)) := by
  rw [v_shr]
  show D.band (.int ((a >>> k : Nat) : Int)) (.int ((1 : Nat) : Int)) = _
  rw [v_band]
  rw [Nat.testBit]
  by_cases h : (a >>> k) &&& 1 = 0
  · rw [h]
    have h2 : 1 &&& (a >>> k) = 0 := by rw [Nat.and_comm]; exact h
    simp [h2]
  · have h1 : (a >>> k) &&& 1 = 1 := by
      have := Nat.and_one_is_mod (a >>> k)
      omega
    have h2 : 1 &&& (a >>> k) = 1 := by rw [Nat.and_comm]; exact h1
    rw [h1]
    simp [h2]
/-! ### loops -/
theorem loop_map {X S α τ β κ : Type} {f : α → τ → Res (Fl τ τ κ)} (ψ : X → α) (φ : S → τ) (g : S → X → S) (I : S → Prop) : ∀ (xs : List X) (s : S), I s →
    (∀ x ∈ xs, ∀ s, I s → f (ψ x) (φ s) = .ok (.nx (φ (g s x))) ∧ I (g s x)) → loop (β := β) (xs.map ψ) (φ s) f = .ok (.nx (φ (xs.foldl g s))) ∧ I (xs.foldl g s)
  | [], s, h, _ => ⟨rfl, h⟩
  | x :: xs, s, h, hs => by
    obtain ⟨h1, h2⟩ := hs x List.mem_cons_self s h
    obtain ⟨h3, h4⟩ := loop_map ψ φ g I xs (g s x) h2 fun y hy s hs' => hs y (List.mem_cons_of_mem _ hy) s hs'
    refine ⟨?_, h4⟩
    rw [List.map_cons]
    unfold loop
    rw [h1]
    exact h3
/-- a loop that but looks: each item passes -/
theorem loop_pass {α β κ : Type} {f : α → Unit → Res (Fl Unit Unit κ)} : ∀ (ds : List α), (∀ d ∈ ds, f d () = .ok (.nx ()) ∨ f d () = .ok (.ct ())) → loop (β := β) ds () f = .ok (.nx ())
  | [], _ => rfl
  | d :: r, h => by
    have h1 := h d List.mem_cons_self
    have h2 := loop_pass (β := β) r fun e he => h e (List.mem_cons_of_mem _ he)
    unfold loop
    rcases h1 with h1 | h1 <;> rw [h1] <;> exact h2
/-- a loop with an invariant -/
theorem loop_inv {α τ β κ : Type} {f : α → τ → Res (Fl τ τ κ)} (I : List α → τ → Prop) : ∀ (ds done : List α) (s : τ), I done s →
    (∀ d ∈ ds, ∀ done s, I done s → ∃ t, (f d s = .ok (.nx t) ∨ f d s = .ok (.ct t)) ∧ I (done ++ [d]) t) → ∃ t, loop (β := β) ds s f = .ok (.nx t) ∧ I (done ++ ds) t
  | [], done, s, h, _ => ⟨s, rfl, by rw [List.append_nil]; exact h⟩
  | d :: r, done, s, h, hs => by
    obtain ⟨t, h1, h2⟩ := hs d List.mem_cons_self done s h
    obtain ⟨t', h3, h4⟩ := loop_inv (β := β) I r (done ++ [d]) t h2 fun e he => hs e (List.mem_cons_of_mem _ he)
    refine ⟨t', ?_, by rw [List.append_assoc] at h4; exact h4⟩
    unfold loop
    rcases h1 with h1 | h1 <;> rw [h1] <;> exact h3
/-- a loop with an invariant by index -/
theorem loop_ix {α τ β κ : Type} {f : α → τ → Res (Fl τ τ κ)} (I : Nat → τ → Prop) (ds : List α) (s : τ) (h0 : I 0 s)
    (hs : ∀ i (h : i < ds.length) s, I i s → ∃ t, (f ds[i] s = .ok (.nx t) ∨ f ds[i] s = .ok (.ct t)) ∧ I (i + 1) t) : ∃ t, loop (β := β) ds s f = .ok (.nx t) ∧ I ds.length t := by
  have key : ∀ (k i : Nat) (s : τ), ds.length - i = k → i ≤ ds.length → I i s → ∃ t, loop (β := β) (ds.drop i) s f = .ok (.nx t) ∧ I ds.length t := by
    intro k
    induction k with
    | zero =>
      intro i s hk hi h
      have e : i = ds.length := by omega
      subst e
      exact ⟨s, by rw [List.drop_length]; rfl, h⟩
    | succ k ih =>
      intro i s hk hi h
      have hi' : i < ds.length := by omega
      obtain ⟨t, h1, h2⟩ := hs i hi' s h
      obtain ⟨t', h3, h4⟩ := ih (i + 1) t (by omega) hi' h2
      refine ⟨t', ?_, h4⟩
      rw [List.drop_eq_getElem_cons hi']
      unfold loop
      rcases h1 with h1 | h1 <;> rw [h1] <;> exact h3
  simpa using key ds.length 0 s rfl (Nat.zero_le _) h0
theorem v_app {l : List D} {d : D} (h : l.length < 16777216) : app l d = .ok (l ++ [d]) := if_pos h
/-- a while whose measure falls -/
theorem whl_inv {τ β κ : Type} {c : τ → Res Bool} {f : τ → Res (Fl τ τ κ)} (I : τ → Prop) (μ : τ → Nat) (hstep : ∀ s, I s → ∃ b, c s = .ok b ∧ (b = true → ∃ t, (f s = .ok (.nx t) ∨ f s = .ok (.ct t)) ∧ I t ∧ μ t < μ s)) :
    ∀ (n : Nat) (s : τ), I s → μ s < n → ∃ t, whl (β := β) n s c f = .ok (.nx t) ∧ I t ∧ c t = .ok false
  | 0, s, _, h => absurd h (Nat.not_lt_zero _)
  | n + 1, s, hI, h => by
    obtain ⟨b, hb, hf⟩ := hstep s hI
    unfold whl
    rw [hb]
    cases b with
    | false => exact ⟨s, rfl, hI, hb⟩
    | true =>
      obtain ⟨t, h1, h2, h3⟩ := hf rfl
      obtain ⟨t', h4, h5⟩ := whl_inv (β := β) I μ hstep n t h2 (by omega)
      refine ⟨t', ?_, h5⟩
      simp only [Res.ok_bind, if_true]
      rcases h1 with h1 | h1 <;> rw [h1] <;> exact h4
theorem at_loop {α τ τ' β κ : Type} {f : α → τ → Res (Fl τ τ κ)} {k : τ → Res (Fl τ' β κ)} {R : Res (Fl τ' β κ)} (I : Nat → τ → Prop) {ds : List α} {s : τ} (h0 : I 0 s)
    (hs : ∀ i (h : i < ds.length) s, I i s → ∃ t, (f ds[i] s = .ok (.nx t) ∨ f ds[i] s = .ok (.ct t)) ∧ I (i + 1) t) (hk : ∀ t, I ds.length t → k t = R) : andThen (loop ds s f) k = R := by
  obtain ⟨t, h1, h2⟩ := loop_ix (β := β) I ds s h0 hs
  rw [h1]; exact hk t h2
theorem told_loop {α τ : Type} {f : α → τ → Res (Fl τ τ Unit)} {k : τ → Me} {R : Res D} (I : Nat → τ → Prop) {ds : List α} {s : τ} (h0 : I 0 s)
    (hs : ∀ i (h : i < ds.length) s, I i s → ∃ t, (f ds[i] s = .ok (.nx t) ∨ f ds[i] s = .ok (.ct t)) ∧ I (i + 1) t) (hk : ∀ t, I ds.length t → told (k t) = R) : told (andThen (loop ds s f) k) = R := by
  obtain ⟨t, h1, h2⟩ := loop_ix (β := Empty) I ds s h0 hs
  rw [h1]; exact hk t h2
theorem at_whl {τ τ' β κ : Type} {c : τ → Res Bool} {f : τ → Res (Fl τ τ κ)} {k : τ → Res (Fl τ' β κ)} {R : Res (Fl τ' β κ)} {n : Nat} {s : τ} (I : τ → Prop) (μ : τ → Nat) (h0 : I s) (hn : μ s < n)
    (hstep : ∀ s, I s → ∃ b, c s = .ok b ∧ (b = true → ∃ t, (f s = .ok (.nx t) ∨ f s = .ok (.ct t)) ∧ I t ∧ μ t < μ s)) (hk : ∀ t, I t → c t = .ok false → k t = R) : andThen (whl n s c f) k = R := by
  obtain ⟨t, h1, h2, h3⟩ := whl_inv (β := β) I μ hstep n s h0 hn
  rw [h1]; exact hk t h2 h3
theorem told_whl {τ : Type} {c : τ → Res Bool} {f : τ → Res (Fl τ τ Unit)} {k : τ → Me} {R : Res D} {n : Nat} {s : τ} (I : τ → Prop) (μ : τ → Nat) (h0 : I s) (hn : μ s < n)
    (hstep : ∀ s, I s → ∃ b, c s = .ok b ∧ (b = true → ∃ t, (f s = .ok (.nx t) ∨ f s = .ok (.ct t)) ∧ I t ∧ μ t < μ s)) (hk : ∀ t, I t → c t = .ok false → told (k t) = R) : told (andThen (whl n s c f) k) = R := by
  obtain ⟨t, h1, h2, h3⟩ := whl_inv (β := Empty) I μ hstep n s h0 hn
  rw [h1]; exact hk t h2 h3
theorem tloop_ex {α τ : Type} {f : α → τ → Res (Fl τ τ Unit)} {k : τ → Me} {P : Res D → Prop} (I : Nat → τ → Prop) {ds : List α} {s : τ} (h0 : I 0 s)
    (hs : ∀ i (h : i < ds.length) s, I i s → ∃ t, (f ds[i] s = .ok (.nx t) ∨ f ds[i] s = .ok (.ct t)) ∧ I (i + 1) t) (hk : ∀ t, I ds.length t → P (told (k t))) : P (told (andThen (loop ds s f) k)) := by
  obtain ⟨t, h1, h2⟩ := loop_ix (β := Empty) I ds s h0 hs
  rw [h1]; exact hk t h2
theorem step_loop {α τ τ' β κ : Type} {f : α → τ → Res (Fl τ τ κ)} {k : τ → Res (Fl τ' τ' κ)} {R : τ' → Prop} (I : Nat → τ → Prop) {ds : List α} {s : τ} (h0 : I 0 s)
    (hs : ∀ i (h : i < ds.length) s, I i s → ∃ t, (f ds[i] s = .ok (.nx t) ∨ f ds[i] s = .ok (.ct t)) ∧ I (i + 1) t) (hk : ∀ t, I ds.length t → ∃ t', (k t = .ok (.nx t') ∨ k t = .ok (.ct t')) ∧ R t') :
    ∃ t', (andThen (loop ds s f) k = .ok (.nx t') ∨ andThen (loop ds s f) k = .ok (.ct t')) ∧ R t' := by
  obtain ⟨t, h1, h2⟩ := loop_ix (β := τ') I ds s h0 hs
  rw [h1]; exact hk t h2
theorem step_whl {τ τ' β κ : Type} {c : τ → Res Bool} {f : τ → Res (Fl τ τ κ)} {k : τ → Res (Fl τ' τ' κ)} {R : τ' → Prop} {n : Nat} {s : τ} (I : τ → Prop) (μ : τ → Nat) (h0 : I s) (hn : μ s < n)
    (hstep : ∀ s, I s → ∃ b, c s = .ok b ∧ (b = true → ∃ t, (f s = .ok (.nx t) ∨ f s = .ok (.ct t)) ∧ I t ∧ μ t < μ s)) (hk : ∀ t, I t → c t = .ok false → ∃ t', (k t = .ok (.nx t') ∨ k t = .ok (.ct t')) ∧ R t') :
    ∃ t', (andThen (whl n s c f) k = .ok (.nx t') ∨ andThen (whl n s c f) k = .ok (.ct t')) ∧ R t' := by
  obtain ⟨t, h1, h2, h3⟩ := whl_inv (β := τ') I μ hstep n s h0 hn
  rw [h1]; exact hk t h2 h3
theorem comp_map {X α : Type} {f : α → Res (Option D)} (ψ : X → α) (g : X → Option D) : ∀ (xs : List X) (acc : List D), acc.length + xs.length ≤ 16777216 → (∀ x ∈ xs, f (ψ x) = .ok (g x)) → comp (xs.map ψ) acc f = .ok (acc ++ xs.filterMap g)
  | [], acc, _, _ => by simp [comp]
  | x :: xs, acc, hl, h => by
    rw [List.map_cons]
    unfold comp
    rw [h x List.mem_cons_self]
    rw [List.length_cons] at hl
    cases q : g x with
    | none =>
      simp only
      rw [comp_map ψ g xs acc (by omega) fun y hy => h y (List.mem_cons_of_mem _ hy), List.filterMap_cons_none q]
    | some y =>
      simp only
      have hlt : acc.length < sizeLine := by rw [sizeLine_val]; omega
      rw [if_pos hlt, comp_map ψ g xs (acc ++ [y]) (by rw [List.length_append]; simp; omega) fun y hy => h y (List.mem_cons_of_mem _ hy), List.filterMap_cons_some q]
      simp
theorem pick_len (l : List Int) (lo hi st : Option Int) : (D.pick l lo hi st).length ≤ l.length := by
  have h := slicePick_size_le (l.map fun i => Value.int i 0).toArray lo hi st
  have e : (slicePick (l.map fun i => Value.int i 0).toArray lo hi st).size = (D.pick (l.map fun i => Value.int i 0) lo hi st).length := by
    unfold slicePick D.pick
    simp
  rw [e, pick_map, List.length_map] at h
  simpa using h
theorem v_slice3 (ns : List Int) (lo hi st : Option Int) (h0 : st ≠ some 0) (h : ns.length ≤ 16777216) : D.slice3 (.scr ns) lo hi st = .ok (.lst ((D.pick ns lo hi st).map D.int)) := by
  unfold D.slice3
  rw [if_neg h0]
  simp only
  have hz : (D.pick ns lo hi st).length ≤ sizeLine := Nat.le_trans (pick_len ns lo hi st) h
  rw [if_pos hz]
theorem allInt_map : ∀ l : List Int, D.allInt (l.map D.int) = some l
  | [] => rfl
  | i :: l => by
    rw [List.map_cons]
    unfold D.allInt
    rw [allInt_map l]; rfl
@[simp] theorem v_sum (l : List Int) : D.sum (.lst (l.map D.int)) = .ok (.int l.sum) := by
  unfold D.sum
  simp only [allInt_map]
@[simp] theorem v_sliceSc (ns : List Int) (lo hi : Option Int) : D.sliceI (.scr ns) lo hi = .ok (.lst ((D.cut ns lo hi).map D.int)) := id rfl
theorem cut_len {α : Type} (l : List α) (lo hi : Option Int) : (D.cut l lo hi).length ≤ l.length := by
  unfold D.cut
  rw [List.length_take, List.length_drop]
  omega
theorem rng_map (n : Nat) : D.rng 0 n = (List.range n).map fun (i : Nat) => D.int (i : Int) := by
  unfold D.rng
  simp
@[simp] theorem v_range1 (n : Nat) (h : n < 4611686018427387904) : D.range1 (.int (n : Int)) = .ok ((List.range n).map fun (i : Nat) => D.int (i : Int)) := by
  unfold D.range1
  have hb : D.inB62 (n : Int) = true := by
    unfold D.inB62
    simp; omega
  simp only [hb, if_true, Int.toNat_natCast, rng_map]
end RL

/-! RM2: sets of bars as numbers; what is joined. -/
namespace RL
open PySem L2
/-- all bits of a are bits of b -/
def Le (a b : Nat) : Prop := ∀ i, a.testBit i = true → b.testBit i = true
theorem Le.refl (a : Nat) : Le a a := fun _ h => h
theorem Le.trans {a b c : Nat} (h : Le a b) (k : Le b c) : Le a c := fun i z => k i (h i z)
theorem Le.antisymm {a b : Nat} (h : Le a b) (k : Le b a) : a = b := by
  apply Nat.eq_of_testBit_eq; intro i
  have h1 := h i
  have h2 := k i
  cases q : a.testBit i <;> cases r : b.testBit i <;> simp_all
theorem Le.orL (a b : Nat) : Le a (a ||| b) := fun i h => by simp [h]
theorem Le.orR (a b : Nat) : Le b (a ||| b) := fun i h => by simp [h]
theorem Le.or {a b c : Nat} (h : Le a c) (k : Le b c) : Le (a ||| b) c := fun i z => by
  rw [Nat.testBit_or, Bool.or_eq_true] at z
  exact z.elim (h i) (k i)
theorem Le.or_mono {a b c d : Nat} (h : Le a c) (k : Le b d) : Le (a ||| b) (c ||| d) := Le.or (h.trans (Le.orL _ _)) (k.trans (Le.orR _ _))
theorem Le.or_eq {a b : Nat} (h : Le b a) : a ||| b = a := Le.antisymm (Le.or (Le.refl a) h) (Le.orL a b)
theorem Le.of_or_eq {a b : Nat} (h : a ||| b = a) : Le b a := by
  have := Le.orR a b
  rwa [h] at this
theorem Le.zero (a : Nat) : Le 0 a := fun i h => by simp at h
theorem Le.le {a b : Nat} (h : Le a b) : a ≤ b := by
  have e := Le.or_eq h
  have h2 : a ≤ b ||| a := Nat.right_le_or
  omega
theorem and_ne {a b : Nat} : a &&& b ≠ 0 ↔ ∃ i, a.testBit i = true ∧ b.testBit i = true := by
  constructor
  · intro h
    obtain ⟨i, hi⟩ := Nat.exists_testBit_of_ne_zero h
    rw [Nat.testBit_and, Bool.and_eq_true] at hi
    exact ⟨i, hi⟩
  · rintro ⟨i, h1, h2⟩ e
    have : (a &&& b).testBit i = true := by simp [h1, h2]
    rw [e] at this; simp at this
theorem bit_lt {a i : Nat} (h : a.testBit i = true) : i < a := by
  have h1 := Nat.ge_two_pow_of_testBit h
  have h2 : i < 2 ^ i := Nat.lt_two_pow_self
  omega
/-- the number whose bits below n are told by f -/
def mkN : Nat → (Nat → Bool) → Nat
  | 0, _ => 0
  | n + 1, f => mkN n f ||| (if f n then 2 ^ n else 0)
theorem mkN_bit (f : Nat → Bool) : ∀ n i, (mkN n f).testBit i = (decide (i < n) && f i)
  | 0, i => by simp [mkN]
  | n + 1, i => by
    unfold mkN
    rw [Nat.testBit_or, mkN_bit f n i]
    by_cases h : i = n
    · subst h
      cases f i <;> simp
    · have h1 : decide (i < n + 1) = decide (i < n) := by
        apply decide_eq_decide.mpr; omega
      rw [h1]
      have h2 : (if f n = true then 2 ^ n else 0).testBit i = false := by
        split
        · rw [Nat.testBit_two_pow]; simp; omega
        · simp
      rw [h2, Bool.or_false]
/-- from bar a one comes to bar b by the pairs P -/
inductive Rch (P : List Nat) : Nat → Nat → Prop
  | refl (a : Nat) : Rch P a a
  | step {a b c p : Nat} (h : Rch P a b) (hp : p ∈ P) (hb : p.testBit b = true) (hc : p.testBit c = true) : Rch P a c
theorem Rch.trans {P : List Nat} {a b c : Nat} (h : Rch P a b) (k : Rch P b c) : Rch P a c := by
  induction k with
  | refl => exact h
  | step _ hp hb hc ih => exact .step ih hp hb hc
theorem Rch.one {P : List Nat} {a b p : Nat} (hp : p ∈ P) (ha : p.testBit a = true) (hb : p.testBit b = true) : Rch P a b := .step (.refl a) hp ha hb
theorem Rch.symm {P : List Nat} {a b : Nat} (h : Rch P a b) : Rch P b a := by
  induction h with
  | refl => exact .refl _
  | step _ hp hb hc ih => exact (Rch.one hp hc hb).trans ih
theorem Rch.mono {P Q : List Nat} (h : ∀ p ∈ P, p ∈ Q) {a b : Nat} (r : Rch P a b) : Rch Q a b := by
  induction r with
  | refl => exact .refl _
  | step _ hp hb hc ih => exact .step ih (h _ hp) hb hc
theorem mem_sum {P : List Nat} {p : Nat} (h : p ∈ P) : p ≤ P.sum := by
  induction P with
  | nil => cases h
  | cons q r ih =>
    rw [List.sum_cons]
    rcases List.mem_cons.mp h with rfl | h
    · omega
    · have := ih h; omega
open Classical in
/-- the set to which one comes from the bars s -/
noncomputable def cl (P : List Nat) (s : Nat) : Nat := mkN (s + P.sum) fun i => decide (∃ j, s.testBit j = true ∧ Rch P j i)
theorem Rch.lt {P : List Nat} {s j i : Nat} (h : Rch P j i) (hj : s.testBit j = true) : i < s + P.sum := by
  cases h with
  | refl => have := bit_lt hj; omega
  | step _ hp _ hc =>
    have h1 := bit_lt hc
    have h2 := mem_sum hp
    omega
open Classical in
theorem cl_bit (P : List Nat) (s i : Nat) : (cl P s).testBit i = true ↔ ∃ j, s.testBit j = true ∧ Rch P j i := by
  unfold cl
  rw [mkN_bit]
  constructor
  · intro h
    rw [Bool.and_eq_true] at h
    exact of_decide_eq_true h.2
  · rintro ⟨j, h1, h2⟩
    rw [Bool.and_eq_true]
    exact ⟨decide_eq_true (h2.lt h1), decide_eq_true ⟨j, h1, h2⟩⟩
/-- closed under the pairs -/
def Cl (P : List Nat) (t : Nat) : Prop := ∀ p ∈ P, t &&& p ≠ 0 → Le p t
theorem cl_le (P : List Nat) (s : Nat) : Le s (cl P s) := fun i h => (cl_bit P s i).mpr ⟨i, h, .refl i⟩
theorem cl_cl (P : List Nat) (s : Nat) : Cl P (cl P s) := fun p hp h i hi => by
  obtain ⟨k, h1, h2⟩ := and_ne.mp h
  obtain ⟨j, h3, h4⟩ := (cl_bit P s k).mp h1
  exact (cl_bit P s i).mpr ⟨j, h3, .step h4 hp h2 hi⟩
theorem cl_least {P : List Nat} {s t : Nat} (h : Le s t) (c : Cl P t) : Le (cl P s) t := fun i hi => by
  obtain ⟨j, h3, h4⟩ := (cl_bit P s i).mp hi
  have z : ∀ k, Rch P j k → t.testBit k = true := fun k r => by
    induction r with
    | refl => exact h _ h3
    | step r hp hb hc ih => exact c _ hp (and_ne.mpr ⟨_, ih, hb⟩) _ hc
  exact z i h4
theorem cl_eq {P : List Nat} {s t : Nat} (h : Le s t) (k : Le t (cl P s)) (c : Cl P t) : t = cl P s := Le.antisymm k (cl_least h c)
theorem cl_mono {P : List Nat} {s t : Nat} (h : Le s t) : Le (cl P s) (cl P t) := cl_least (h.trans (cl_le P t)) (cl_cl P t)
theorem cl_monoP {P Q : List Nat} (h : ∀ p ∈ P, p ∈ Q) (s : Nat) : Le (cl P s) (cl Q s) := fun i hi => by
  obtain ⟨j, h3, h4⟩ := (cl_bit P s i).mp hi
  exact (cl_bit Q s i).mpr ⟨j, h3, h4.mono h⟩
theorem cl_idem (P : List Nat) (s : Nat) : cl P (cl P s) = cl P s := Le.antisymm (cl_least (Le.refl _) (cl_cl P s)) (cl_le P _)
theorem cl_or (P : List Nat) (s t : Nat) : cl P (s ||| t) = cl P s ||| cl P t := by
  apply Le.antisymm
  · intro i hi
    obtain ⟨j, h3, h4⟩ := (cl_bit P _ i).mp hi
    rw [Nat.testBit_or, Bool.or_eq_true] at h3 ⊢
    exact h3.imp (fun z => (cl_bit P s i).mpr ⟨j, z, h4⟩) fun z => (cl_bit P t i).mpr ⟨j, z, h4⟩
  · exact Le.or (cl_mono (Le.orL s t)) (cl_mono (Le.orR s t))
theorem cl_nil (s : Nat) : cl [] s = s := Le.antisymm (cl_least (Le.refl s) fun p hp => by cases hp) (cl_le [] s)
theorem cl_zero (P : List Nat) : cl P 0 = 0 := Le.antisymm (cl_least (Le.refl 0) fun p hp h => by simp at h) (Le.zero _)
theorem Le.lt_pow {a b : Nat} {n : Nat} (h : Le a b) (hb : b < 2 ^ n) : a < 2 ^ n := Nat.lt_of_le_of_lt h.le hb
theorem cl_lt {P : List Nat} {s n : Nat} (hs : s < 2 ^ n) (hP : ∀ p ∈ P, p < 2 ^ n) : cl P s < 2 ^ n := by
  have h1 : Le (cl P s) (2 ^ n - 1) := cl_least (fun i h => ?_) fun p hp _ i h => ?_
  · have := h1.le
    have : 0 < 2 ^ n := Nat.two_pow_pos n
    omega
  · rw [Nat.testBit_two_pow_sub_one]
    refine decide_eq_true (Nat.lt_of_not_le fun z => ?_)
    have h1 := Nat.ge_two_pow_of_testBit h
    have h2 := Nat.pow_le_pow_right (n := 2) (by omega) z
    omega
  · rw [Nat.testBit_two_pow_sub_one]
    refine decide_eq_true (Nat.lt_of_not_le fun z => ?_)
    have h1 := Nat.ge_two_pow_of_testBit h
    have h2 := Nat.pow_le_pow_right (n := 2) (by omega) z
    have h3 := hP p hp
    omega
/-- one more step within -/
theorem cl_step {P : List Nat} {s f p : Nat} (h : Le f (cl P s)) (hp : p ∈ P) (hn : f &&& p ≠ 0) : Le (f ||| p) (cl P s) :=
  Le.or h (cl_cl P s p hp (by
    obtain ⟨i, h1, h2⟩ := and_ne.mp hn
    exact and_ne.mpr ⟨i, h i h1, h2⟩))
/-! ### switches -/
inductive Sw where
  | feed (a : Nat) | earth (a : Nat) | br (a b : Nat) | sp (a b : Nat)
namespace Sw
def d : Sw → D
  | feed a => .tup [.str "feed", .int (a : Int)]
  | earth a => .tup [.str "earth", .int (a : Int)]
  | br a b => .tup [.str "breaker", .int (a : Int), .int (b : Int)]
  | sp a b => .tup [.str "splitter", .int (a : Int), .int (b : Int)]
def o : Sw → D
  | feed a => .obj "Feed" [("bar", .int (a : Int))]
  | earth a => .obj "Earth" [("bar", .int (a : Int))]
  | br a b => .obj "Breaker" [("one", .int (a : Int)), ("other", .int (b : Int))]
  | sp a b => .obj "Splitter" [("one", .int (a : Int)), ("other", .int (b : Int))]
def mask : Sw → Nat
  | br a b => 2 ^ a ||| 2 ^ b
  | sp a b => 2 ^ a ||| 2 ^ b
  | _ => 0
def fmask : Sw → Nat
  | feed a => 2 ^ a
  | _ => 0
def emask : Sw → Nat
  | earth a => 2 ^ a
  | _ => 0
def long : Sw → Bool
  | br _ _ => true
  | sp _ _ => true
  | _ => false
def Ok (n : Nat) : Sw → Prop
  | feed a => a < n
  | earth a => a < n
  | br a b => a < n ∧ b < n ∧ a ≠ b
  | sp a b => a < n ∧ b < n ∧ a ≠ b
theorem mask_pos {s : Sw} (h : s.long = true) : s.mask ≠ 0 := by
  cases s with
  | br a b =>
    have : 0 < 2 ^ a := Nat.two_pow_pos a
    have h2 : 2 ^ a ≤ 2 ^ a ||| 2 ^ b := Nat.left_le_or
    show 2 ^ a ||| 2 ^ b ≠ 0
    omega
  | sp a b =>
    have : 0 < 2 ^ a := Nat.two_pow_pos a
    have h2 : 2 ^ a ≤ 2 ^ a ||| 2 ^ b := Nat.left_le_or
    show 2 ^ a ||| 2 ^ b ≠ 0
    omega
  | _ => cases h
theorem mask_lt {s : Sw} {n : Nat} (h : s.Ok n) : s.mask < 2 ^ n := by
  cases s with
  | br a b => exact Nat.or_lt_two_pow (Nat.pow_lt_pow_right (by omega) h.1) (Nat.pow_lt_pow_right (by omega) h.2.1)
  | sp a b => exact Nat.or_lt_two_pow (Nat.pow_lt_pow_right (by omega) h.1) (Nat.pow_lt_pow_right (by omega) h.2.1)
  | _ => exact Nat.two_pow_pos n
end Sw
/-- the numbered shut switches -/
def shutN (sws : List Sw) (st : Nat) : List (Sw × Nat) := sws.zipIdx.filter fun p => st.testBit p.2
/-- the pairs that are joined -/
def prs (sws : List Sw) (st : Nat) : List Nat := ((shutN sws st).filter fun p => p.1.long).map fun p => p.1.mask
def yd (n : Nat) (sws : List Sw) : D := .tup [.int (n : Int), .lst (sws.map Sw.d)]
theorem mem_shutN {sws : List Sw} {st : Nat} {p : Sw × Nat} : p ∈ shutN sws st ↔ sws[p.2]? = some p.1 ∧ st.testBit p.2 = true := by
  unfold shutN
  rw [List.mem_filter]
  constructor
  · rintro ⟨h1, h2⟩
    refine ⟨?_, h2⟩
    obtain ⟨s, k⟩ := p
    have := List.mem_zipIdx_iff_getElem?.mp h1
    exact this
  · rintro ⟨h1, h2⟩
    refine ⟨?_, h2⟩
    obtain ⟨s, k⟩ := p
    exact List.mem_zipIdx_iff_getElem?.mpr h1
theorem prs_lt {sws : List Sw} {st n : Nat} (h : ∀ s ∈ sws, s.Ok n) : ∀ p ∈ prs sws st, p < 2 ^ n := fun p hp => by
  unfold prs at hp
  obtain ⟨q, hq, rfl⟩ := List.mem_map.mp hp
  have h2 := (List.mem_filter.mp hq).1
  have h3 := (mem_shutN.mp h2).1
  exact Sw.mask_lt (h _ (List.mem_of_getElem? h3))
theorem mem_prs {sws : List Sw} {st p : Nat} : p ∈ prs sws st ↔ ∃ k s, sws[k]? = some s ∧ st.testBit k = true ∧ s.long = true ∧ p = s.mask := by
  unfold prs
  rw [List.mem_map]
  constructor
  · rintro ⟨⟨s, k⟩, hq, rfl⟩
    obtain ⟨h1, h2⟩ := List.mem_filter.mp hq
    obtain ⟨h3, h4⟩ := mem_shutN.mp h1
    exact ⟨k, s, h3, h4, h2, rfl⟩
  · rintro ⟨k, s, h3, h4, h2, rfl⟩
    exact ⟨(s, k), List.mem_filter.mpr ⟨mem_shutN.mpr ⟨h3, h4⟩, h2⟩, rfl⟩
theorem Sw.Ok.mono {s : Sw} {n m : Nat} (h : s.Ok n) (k : n ≤ m) : s.Ok m := by
  cases s with
  | feed a => exact Nat.lt_of_lt_of_le h k
  | earth a => exact Nat.lt_of_lt_of_le h k
  | br a b => exact ⟨Nat.lt_of_lt_of_le h.1 k, Nat.lt_of_lt_of_le h.2.1 k, h.2.2⟩
  | sp a b => exact ⟨Nat.lt_of_lt_of_le h.1 k, Nat.lt_of_lt_of_le h.2.1 k, h.2.2⟩
/-- one round -/
structure NearS (P : List Nat) (s f : Nat) : Prop where
  up : Le s f
  low : ∀ S, Le s S → Cl P S → Le f S
  all : ∀ p ∈ P, s &&& p ≠ 0 → Le p f
theorem NearS.cl {P : List Nat} {s : Nat} (h : NearS P s s) : Cl P s := fun p hp hn => h.all p hp hn
end RL

/-! RM3: equality of data. -/
namespace RL
open PySem L2
/-- plain data without truths, so deep -/
def okE : Nat → D → Bool
  | _, .non => true
  | _, .int _ => true
  | _, .str x => PyData.strOk x
  | n + 1, .lst l => l.all (okE n)
  | n + 1, .tup l => l.all (okE n)
  | _, _ => false
theorem pys_some {l : List D} (h : ∀ d ∈ l, ∃ p, d.py = some p) : ∃ ps, D.pys l = some ps := by
  induction l with
  | nil => exact ⟨[], by unfold D.pys; rfl⟩
  | cons d l ih =>
    obtain ⟨p, hp⟩ := h d List.mem_cons_self
    obtain ⟨ps, hps⟩ := ih fun e he => h e (List.mem_cons_of_mem _ he)
    exact ⟨p :: ps, by unfold D.pys; rw [hp, hps]⟩
theorem pys_cons {d : D} {l : List D} {ps : List PyData} (h : D.pys (d :: l) = some ps) : ∃ p r, d.py = some p ∧ D.pys l = some r ∧ ps = p :: r := by
  unfold D.pys at h
  cases h1 : d.py with
  | none => rw [h1] at h; cases h
  | some p =>
    cases h2 : D.pys l with
    | none => rw [h1, h2] at h; cases h
    | some r => rw [h1, h2] at h; cases h; exact ⟨p, r, rfl, rfl, rfl⟩
theorem pys_nil {ps : List PyData} (h : D.pys [] = some ps) : ps = [] := by unfold D.pys at h; cases h; rfl
theorem py_ok : ∀ (n : Nat) (d : D), okE n d = true → ∃ p, d.py = some p ∧ p.canLay0 = true ∧ p.depth ≤ n + 1
  | n, .non, _ => ⟨.none, by unfold D.py; rfl, rfl, by simp [PyData.depth]⟩
  | n, .int i, _ => ⟨.int i, by unfold D.py; rfl, rfl, by simp [PyData.depth]⟩
  | n, .str x, h => ⟨.str x, by unfold D.py; rfl, by simpa [okE, PyData.canLay0] using h, by simp [PyData.depth]⟩
  | 0, .lst l, h => by simp [okE] at h
  | 0, .tup l, h => by simp [okE] at h
  | n, .bl b, h => by cases n <;> simp [okE] at h
  | n, .dic l, h => by cases n <;> simp [okE] at h
  | n, .scr l, h => by cases n <;> simp [okE] at h
  | n, .obj c l, h => by cases n <;> simp [okE] at h
  | n + 1, .lst l, h => by
    have h : l.all (okE n) = true := by simpa [okE] using h
    have hl : ∃ ps, D.pys l = some ps ∧ PyData.canLayAll0 ps = true ∧ PyData.depthAll ps ≤ n + 1 := by
      induction l with
      | nil => exact ⟨[], by unfold D.pys; rfl, rfl, by simp [PyData.depthAll]⟩
      | cons d l ih =>
        rw [List.all_cons, Bool.and_eq_true] at h
        obtain ⟨p, h1, h2, h3⟩ := py_ok n d h.1
        obtain ⟨ps, h4, h5, h6⟩ := ih h.2 h.2
        exact ⟨p :: ps, by unfold D.pys; rw [h1, h4], by simp [PyData.canLayAll0, h2, h5], by simp [PyData.depthAll]; omega⟩
    obtain ⟨ps, h1, h2, h3⟩ := hl
    exact ⟨.list ps, by unfold D.py; rw [h1]; rfl, by simpa [PyData.canLay0] using h2, by simp [PyData.depth]; omega⟩
  | n + 1, .tup l, h => by
    have h : l.all (okE n) = true := by simpa [okE] using h
    have hl : ∃ ps, D.pys l = some ps ∧ PyData.canLayAll0 ps = true ∧ PyData.depthAll ps ≤ n + 1 := by
      induction l with
      | nil => exact ⟨[], by unfold D.pys; rfl, rfl, by simp [PyData.depthAll]⟩
      | cons d l ih =>
        rw [List.all_cons, Bool.and_eq_true] at h
        obtain ⟨p, h1, h2, h3⟩ := py_ok n d h.1
        obtain ⟨ps, h4, h5, h6⟩ := ih h.2 h.2
        exact ⟨p :: ps, by unfold D.pys; rw [h1, h4], by simp [PyData.canLayAll0, h2, h5], by simp [PyData.depthAll]; omega⟩
    obtain ⟨ps, h1, h2, h3⟩ := hl
    exact ⟨.tuple ps, by unfold D.py; rw [h1]; rfl, by simpa [PyData.canLay0] using h2, by simp [PyData.depth]; omega⟩
theorem eqv_ok : ∀ (n m : Nat) (x y : D) (p q : PyData), okE n x = true → okE m y = true → x.py = some p → y.py = some q → (PyData.eqv p q = true ↔ x = y) := by
  intro n
  induction n with
  | zero =>
    intro m x y p q hx hy hp hq
    cases x <;> first | (simp [okE] at hx; done) | skip
    all_goals
      unfold D.py at hp; cases hp
      cases y <;> first | (cases m <;> simp [okE] at hy; done) | skip
      all_goals
        unfold D.py at hq
        first
          | (cases hq; simp [PyData.eqv]; done)
          | (rename_i l; cases h1 : D.pys l with
              | none => rw [h1] at hq; cases hq
              | some r => rw [h1] at hq; cases hq; simp [PyData.eqv])
  | succ n ih =>
    have all : ∀ (xs ys : List D) (m : Nat) (ps qs : List PyData), xs.all (okE n) = true → ys.all (okE m) = true → D.pys xs = some ps → D.pys ys = some qs → (PyData.eqvAll ps qs = true ↔ xs = ys) := by
      intro xs
      induction xs with
      | nil =>
        intro ys m ps qs _ _ hp hq
        rw [pys_nil hp]
        cases ys with
        | nil => rw [pys_nil hq]; simp [PyData.eqvAll]
        | cons y ys =>
          obtain ⟨q, r, _, _, rfl⟩ := pys_cons hq
          simp [PyData.eqvAll]
      | cons x xs ihx =>
        intro ys m ps qs hx hy hp hq
        obtain ⟨p, r, h1, h2, rfl⟩ := pys_cons hp
        cases ys with
        | nil => rw [pys_nil hq]; simp [PyData.eqvAll]
        | cons y ys =>
          obtain ⟨q, r', h3, h4, rfl⟩ := pys_cons hq
          rw [List.all_cons, Bool.and_eq_true] at hx hy
          rw [PyData.eqvAll, Bool.and_eq_true, ih m x y p q hx.1 hy.1 h1 h3, ihx ys m r r' hx.2 hy.2 h2 h4]
          simp
    intro m x y p q hx hy hp hq
    cases x <;> first | (simp [okE] at hx; done) | skip
    case lst l =>
      have hx : l.all (okE n) = true := by simpa [okE] using hx
      unfold D.py at hp
      cases h1 : D.pys l with
      | none => rw [h1] at hp; cases hp
      | some r =>
        rw [h1] at hp; cases hp
        cases y <;> first | (cases m <;> simp [okE] at hy; done) | skip
        case lst k =>
          cases m with
          | zero => simp [okE] at hy
          | succ m =>
            have hy : k.all (okE m) = true := by simpa [okE] using hy
            unfold D.py at hq
            cases h2 : D.pys k with
            | none => rw [h2] at hq; cases hq
            | some r' =>
              rw [h2] at hq; cases hq
              rw [PyData.eqv, all l k m r r' hx hy h1 h2]
              simp
        case tup k =>
          unfold D.py at hq
          cases h2 : D.pys k with
          | none => rw [h2] at hq; cases hq
          | some r' => rw [h2] at hq; cases hq; simp [PyData.eqv]
        all_goals (unfold D.py at hq; cases hq; simp [PyData.eqv])
    case tup l =>
      have hx : l.all (okE n) = true := by simpa [okE] using hx
      unfold D.py at hp
      cases h1 : D.pys l with
      | none => rw [h1] at hp; cases hp
      | some r =>
        rw [h1] at hp; cases hp
        cases y <;> first | (cases m <;> simp [okE] at hy; done) | skip
        case tup k =>
          cases m with
          | zero => simp [okE] at hy
          | succ m =>
            have hy : k.all (okE m) = true := by simpa [okE] using hy
            unfold D.py at hq
            cases h2 : D.pys k with
            | none => rw [h2] at hq; cases hq
            | some r' =>
              rw [h2] at hq; cases hq
              rw [PyData.eqv, all l k m r r' hx hy h1 h2]
              simp
        case lst k =>
          unfold D.py at hq
          cases h2 : D.pys k with
          | none => rw [h2] at hq; cases hq
          | some r' => rw [h2] at hq; cases hq; simp [PyData.eqv]
        all_goals (unfold D.py at hq; cases hq; simp [PyData.eqv])
    all_goals
      unfold D.py at hp; cases hp
      cases y <;> first | (cases m <;> simp [okE] at hy; done) | skip
      all_goals
        unfold D.py at hq
        first
          | (cases hq; simp [PyData.eqv]; done)
          | (rename_i l; cases h1 : D.pys l with
              | none => rw [h1] at hq; cases hq
              | some r => rw [h1] at hq; cases hq; simp [PyData.eqv])
open Classical in
/-- equality of plain data -/
theorem v_eqB_ok {n m : Nat} {x y : D} (hx : okE n x = true) (hy : okE m y = true) (hn : n ≤ 60) (hm : m ≤ 60) : D.eqB x y = .ok (decide (x = y)) := by
  obtain ⟨p, h1, h2, h3⟩ := py_ok n x hx
  obtain ⟨q, h4, h5, h6⟩ := py_ok m y hy
  have he := eqv_ok n m x y p q hx hy h1 h4
  have s1 : SeqAt.shaped p = true := by
    unfold SeqAt.shaped
    rw [h2, Bool.true_and]; exact decide_eq_true (by omega)
  have s2 : SeqAt.shaped q = true := by
    unfold SeqAt.shaped
    rw [h5, Bool.true_and]; exact decide_eq_true (by omega)
  have gen : (match x.py, y.py with
      | some p, some q => if SeqAt.shaped p = true ∧ SeqAt.shaped q = true then Res.ok (PyData.eqv p q) else .stuck
      | _, _ => .stuck) = .ok (decide (x = y)) := by
    rw [h1, h4]
    simp only [s1, s2, and_self, if_true]
    congr 1
    by_cases e : x = y
    · rw [he.mpr e, decide_eq_true e]
    · rw [decide_eq_false e]
      cases z : PyData.eqv p q with
      | false => rfl
      | true => exact absurd (he.mp z) e
  unfold D.eqB
  split
  · simp
  · simp
  · simp
  · exact gen
open Classical in
theorem v_eq_ok {n m : Nat} {x y : D} (hx : okE n x = true) (hy : okE m y = true) (hn : n ≤ 60) (hm : m ≤ 60) : D.eq x y = .ok (.bl (decide (x = y))) := by
  unfold D.eq; rw [v_eqB_ok hx hy hn hm]; rfl
open Classical in
theorem v_ne_ok {n m : Nat} {x y : D} (hx : okE n x = true) (hy : okE m y = true) (hn : n ≤ 60) (hm : m ≤ 60) : D.ne x y = .ok (.bl (!decide (x = y))) := by
  unfold D.ne; rw [v_eqB_ok hx hy hn hm]; rfl
open Classical in
theorem v_eq_self {n : Nat} {x : D} (hx : okE n x = true) (hn : n ≤ 60) : D.eq x x = .ok (.bl true) := by
  rw [v_eq_ok hx hx hn hn, decide_eq_true rfl]
open Classical in
theorem v_ne_self {n : Nat} {x : D} (hx : okE n x = true) (hn : n ≤ 60) : D.ne x x = .ok (.bl false) := by
  rw [v_ne_ok hx hx hn hn, decide_eq_true rfl]; rfl
theorem so_feed : PyData.strOk "feed" = true := by decide +kernel
theorem so_earth : PyData.strOk "earth" = true := by decide +kernel
theorem so_breaker : PyData.strOk "breaker" = true := by decide +kernel
theorem so_splitter : PyData.strOk "splitter" = true := by decide +kernel
theorem ok_sw (s : Sw) : okE 1 s.d = true := by
  cases s <;> simp [okE, Sw.d, so_feed, so_earth, so_breaker, so_splitter]
theorem ok_yd (n : Nat) (sws : List Sw) : okE 3 (yd n sws) = true := by
  show ([D.int (n : Int), D.lst (sws.map Sw.d)]).all (okE 2) = true
  have h : (sws.map Sw.d).all (okE 1) = true := by
    rw [List.all_eq_true]
    intro d hd
    obtain ⟨s, _, rfl⟩ := List.mem_map.mp hd
    exact ok_sw s
  simp [okE, h]
theorem fm_ite {α β : Type} (c : α → Bool) (h : α → β) : ∀ l : List α, (l.filterMap fun p => if c p = true then some (h p) else none) = (l.filter c).map h
  | [] => rfl
  | a :: l => by
    have ih := fm_ite c h l
    cases q : c a <;> simp [q, ih]
theorem zipIdx_map {α β : Type} (f : α → β) (l : List α) : (l.map f).zipIdx = l.zipIdx.map fun p => (f p.1, p.2) := by
  rw [List.zipIdx_map]
  rfl
@[simp] theorem s_ef : (("earth" : Str) = "feed") = False := eq_false (by decide +kernel)
@[simp] theorem s_bf : (("breaker" : Str) = "feed") = False := eq_false (by decide +kernel)
@[simp] theorem s_sf : (("splitter" : Str) = "feed") = False := eq_false (by decide +kernel)
@[simp] theorem s_be : (("breaker" : Str) = "earth") = False := eq_false (by decide +kernel)
@[simp] theorem s_se : (("splitter" : Str) = "earth") = False := eq_false (by decide +kernel)
@[simp] theorem s_oo : (("one" : Str) = "other") = False := eq_false (by decide +kernel)
@[simp] theorem s_sb : (("splitter" : Str) = "breaker") = False := eq_false (by decide +kernel)
theorem bit1 (b : Bool) : ((if b = true then (1 : Int) else 0) = 1) = (b = true) := by cases b <;> simp
/-! ### sets of the shut switches' bars -/
def fset (g : Sw → Nat) (sws : List Sw) (st : Nat) : Nat := (shutN sws st).foldl (fun a p => a ||| g p.1) 0
theorem shutN_take {sws : List Sw} {st i : Nat} (h : i < sws.length) : shutN (sws.take (i + 1)) st = shutN (sws.take i) st ++ (if st.testBit i = true then [(sws[i], i)] else []) := by
  unfold shutN
  rw [List.take_succ_eq_append_getElem h, List.zipIdx_append, List.filter_append]
  congr 1
  rw [List.length_take, Nat.min_eq_left (Nat.le_of_lt h)]
  simp [List.filter_cons]
theorem fset_take {g : Sw → Nat} {sws : List Sw} {st i : Nat} (h : i < sws.length) : fset g (sws.take (i + 1)) st = if st.testBit i = true then fset g (sws.take i) st ||| g sws[i] else fset g (sws.take i) st := by
  unfold fset
  rw [shutN_take h, List.foldl_append]
  split <;> rfl
theorem fset_zero (g : Sw → Nat) (sws : List Sw) (st : Nat) : fset g (sws.take 0) st = 0 := rfl
theorem foldl_or_bit {α : Type} (g : α → Nat) : ∀ (l : List α) (a i : Nat), (l.foldl (fun a p => a ||| g p) a).testBit i = true ↔ a.testBit i = true ∨ ∃ p ∈ l, (g p).testBit i = true
  | [], a, i => by simp
  | p :: l, a, i => by
    rw [List.foldl_cons, foldl_or_bit g l, Nat.testBit_or, Bool.or_eq_true]
    simp [or_assoc]
theorem fset_bit {g : Sw → Nat} {sws : List Sw} {st i : Nat} : (fset g sws st).testBit i = true ↔ ∃ k s, sws[k]? = some s ∧ st.testBit k = true ∧ (g s).testBit i = true := by
  unfold fset
  rw [foldl_or_bit (fun p : Sw × Nat => g p.1)]
  constructor
  · rintro (h | ⟨p, hp, h⟩)
    · simp at h
    · obtain ⟨h1, h2⟩ := mem_shutN.mp hp
      exact ⟨p.2, p.1, h1, h2, h⟩
  · rintro ⟨k, s, h1, h2, h⟩
    exact .inr ⟨(s, k), mem_shutN.mpr ⟨h1, h2⟩, h⟩
theorem fset_lt {g : Sw → Nat} {sws : List Sw} {st n : Nat} (h : ∀ s ∈ sws, g s < 2 ^ n) : fset g sws st < 2 ^ n := by
  have key : ∀ (l : List (Sw × Nat)) (a : Nat), a < 2 ^ n → (∀ p ∈ l, g p.1 < 2 ^ n) → l.foldl (fun a p => a ||| g p.1) a < 2 ^ n := by
    intro l
    induction l with
    | nil => intro a ha _; exact ha
    | cons p l ih =>
      intro a ha hl
      rw [List.foldl_cons]
      exact ih _ (Nat.or_lt_two_pow ha (hl p List.mem_cons_self)) fun q hq => hl q (List.mem_cons_of_mem _ hq)
  refine key _ 0 (Nat.two_pow_pos n) fun p hp => h _ (List.mem_of_getElem? (mem_shutN.mp hp).1)
theorem Sw.fmask_lt {s : Sw} {n : Nat} (h : s.Ok n) : s.fmask < 2 ^ n := by
  cases s with
  | feed a => exact Nat.pow_lt_pow_right (by omega) h
  | _ => exact Nat.two_pow_pos n
theorem Sw.emask_lt {s : Sw} {n : Nat} (h : s.Ok n) : s.emask < 2 ^ n := by
  cases s with
  | earth a => exact Nat.pow_lt_pow_right (by omega) h
  | _ => exact Nat.two_pow_pos n
def Sw.word : Sw → Str
  | .feed _ => "feed"
  | .earth _ => "earth"
  | .br _ _ => "breaker"
  | .sp _ _ => "splitter"
def Sw.fst : Sw → Nat
  | .feed a => a
  | .earth a => a
  | .br a _ => a
  | .sp a _ => a
theorem d_word (s : Sw) : D.ix s.d (.int 0) = .ok (.str s.word) := by cases s <;> rfl
theorem d_fst (s : Sw) : D.ix s.d (.int 1) = .ok (.int (s.fst : Nat)) := by cases s <;> rfl
theorem Sw.fst_lt {s : Sw} {n : Nat} (h : s.Ok n) : s.fst < n := by
  cases s with
  | feed a => exact h
  | earth a => exact h
  | br a b => exact h.1
  | sp a b => exact h.1
/-- the bar of a switch of this word -/
def wmask (w : Str) (s : Sw) : Nat := if s.word = w then 2 ^ s.fst else 0
theorem wmask_feed : wmask "feed" = Sw.fmask := by funext s; cases s <;> simp [wmask, Sw.word, Sw.fmask, Sw.fst]
theorem s_fe : (("feed" : Str) = "earth") = False := eq_false (by decide +kernel)
theorem wmask_earth : wmask "earth" = Sw.emask := by funext s; cases s <;> simp [wmask, Sw.word, Sw.emask, Sw.fst, s_fe]
theorem wmask_lt {w : Str} {s : Sw} {n : Nat} (h : s.Ok n) : wmask w s < 2 ^ n := by
  unfold wmask
  split
  · exact Nat.pow_lt_pow_right (by omega) (Sw.fst_lt h)
  · exact Nat.two_pow_pos n
/-- the live bars -/
noncomputable def liveN (sws : List Sw) (st : Nat) : Nat := cl (prs sws st) (fset Sw.fmask sws st)
noncomputable def earthN (sws : List Sw) (st : Nat) : Nat := cl (prs sws st) (fset Sw.emask sws st)
theorem liveN_lt {sws : List Sw} {st n : Nat} (h : ∀ s ∈ sws, s.Ok n) : liveN sws st < 2 ^ n := cl_lt (fset_lt fun s hs => Sw.fmask_lt (h s hs)) (prs_lt h)
theorem earthN_lt {sws : List Sw} {st n : Nat} (h : ∀ s ∈ sws, s.Ok n) : earthN sws st < 2 ^ n := cl_lt (fset_lt fun s hs => Sw.emask_lt (h s hs)) (prs_lt h)
theorem dec_nat0 (z : Nat) : decide ((z : Int) = 0) = decide (z = 0) := decide_eq_decide.mpr (by omega)
theorem dec_nat (a b : Nat) : decide ((a : Int) = (b : Int)) = decide (a = b) := decide_eq_decide.mpr (by omega)
theorem v_isT_bl (b : Bool) (T : String) : D.isT T (.bl b) = match kitB "bool" T with
    | some c => .ok (.bl c)
    | none => .stuck := id rfl
theorem v_isT_bb (b : Bool) : D.isT "bool" (.bl b) = .ok (.bl true) := id rfl
theorem v_isT_bi (b : Bool) : D.isT "int" (.bl b) = .ok (.bl true) := id rfl
theorem v_isT_ii (i : Int) : D.isT "int" (.int i) = .ok (.bl true) := id rfl
theorem v_isT_ib (i : Int) : D.isT "bool" (.int i) = .ok (.bl false) := id rfl
theorem v_isT_ll (l : List D) : D.isT "list" (.lst l) = .ok (.bl true) := id rfl
theorem v_isT_tt (l : List D) : D.isT "tuple" (.tup l) = .ok (.bl true) := id rfl
theorem v_isT_ss (x : Str) : D.isT "str" (.str x) = .ok (.bl true) := id rfl
/-! ### one set without another -/
def diff (a b : Nat) : Nat := a ^^^ (a &&& b)
theorem diff_bit (a b i : Nat) : (diff a b).testBit i = (a.testBit i && !b.testBit i) := by
  unfold diff
  rw [Nat.testBit_xor, Nat.testBit_and]
  cases a.testBit i <;> cases b.testBit i <;> rfl
theorem diff_add (a b : Nat) : diff a b + (a &&& b) = a := by
  have h := xor_and_or a (a &&& b)
  have e1 : a &&& (a &&& b) = a &&& b := by
    apply Nat.eq_of_testBit_eq; intro i
    simp only [Nat.testBit_and]
    cases a.testBit i <;> simp
  have e2 : a ||| (a &&& b) = a := by
    apply Nat.eq_of_testBit_eq; intro i
    simp only [Nat.testBit_and, Nat.testBit_or]
    cases a.testBit i <;> simp
  rw [e1, e2] at h
  exact h
theorem bandn (a b : Nat) : Builtin.bitAnd (a : Int) (Builtin.bitNot (b : Int)) = ((diff a b : Nat) : Int) := by
  have h1 : decide (0 ≤ (a : Int)) = true := decide_eq_true (by omega)
  have h2 : decide (0 ≤ Builtin.bitNot (b : Int)) = false := decide_eq_false (by unfold Builtin.bitNot; omega)
  have h3 : (Builtin.bitNot (Builtin.bitNot (b : Int))).toNat = b := by unfold Builtin.bitNot; omega
  unfold Builtin.bitAnd
  rw [h1, h2]
  simp only [h3, Int.toNat_natCast]
  have := diff_add a b
  omega
theorem v_inv (b : Nat) : D.inv (.int (b : Int)) = .ok (.int (Builtin.bitNot (b : Int))) := rfl
theorem v_bandn (a b : Nat) : D.band (.int (a : Int)) (.int (Builtin.bitNot (b : Int))) = .ok (.int (diff a b : Nat)) := by
  show Res.ok (D.int (Builtin.bitAnd _ _)) = _
  rw [bandn]
theorem diff_zero {a b : Nat} : diff a b = 0 ↔ Le a b := by
  constructor
  · intro h i hi
    have h2 := diff_bit a b i
    rw [h, hi] at h2
    simpa using h2
  · intro h
    apply Nat.eq_of_testBit_eq; intro i
    rw [diff_bit, Nat.zero_testBit]
    have := h i
    cases q : a.testBit i <;> simp_all
theorem diff_le (a b : Nat) : Le (diff a b) a := fun i h => by
  rw [diff_bit, Bool.and_eq_true] at h
  exact h.1
def Sw.snd : Sw → Nat
  | .feed a => a
  | .earth a => a
  | .br _ b => b
  | .sp _ b => b
theorem d_snd (s : Sw) (h : s.long = true) : D.ix s.d (.int 2) = .ok (.int (s.snd : Nat)) := by cases s <;> first | rfl | cases h
theorem Sw.mask_eq (s : Sw) (h : s.long = true) : s.mask = 2 ^ s.fst ||| 2 ^ s.snd := by cases s <;> first | rfl | cases h
theorem Sw.mask_fst (s : Sw) (h : s.long = true) : s.mask.testBit s.fst = true := by
  rw [s.mask_eq h, Nat.testBit_or, Nat.testBit_two_pow_self, Bool.true_or]
theorem Sw.mask_snd (s : Sw) (h : s.long = true) : s.mask.testBit s.snd = true := by
  rw [s.mask_eq h, Nat.testBit_or, Nat.testBit_two_pow_self, Bool.or_true]
theorem Sw.mask_bit (s : Sw) (h : s.long = true) (i : Nat) : s.mask.testBit i = true ↔ i = s.fst ∨ i = s.snd := by
  rw [s.mask_eq h, Nat.testBit_or, Nat.testBit_two_pow, Nat.testBit_two_pow, Bool.or_eq_true, decide_eq_true_eq, decide_eq_true_eq]
  constructor <;> rintro (h | h) <;> simp_all
theorem prs_mono {sws : List Sw} {st st' : Nat} (h : Le st st') : ∀ p ∈ prs sws st, p ∈ prs sws st' := fun p hp => by
  obtain ⟨k, s, h1, h2, h3, h4⟩ := mem_prs.mp hp
  exact mem_prs.mpr ⟨k, s, h1, h k h2, h3, h4⟩
theorem prs_zero (sws : List Sw) : prs sws 0 = [] := by
  apply List.eq_nil_iff_forall_not_mem.mpr
  intro p hp
  obtain ⟨k, s, h1, h2, _⟩ := mem_prs.mp hp
  simp at h2
theorem d_len (s : Sw) : D.len s.d = .ok (.int (if s.long = true then 3 else 2)) := by cases s <;> rfl
theorem d_mask (s : Sw) (h : s.long = true) (ho : s.Ok 1000) : (((D.ix s.d (.int 1)).bind fun y => D.shl (.int 1) y).bind fun x => ((D.ix s.d (.int 2)).bind fun y => D.shl (.int 1) y).bind fun y => D.bor x y) = .ok (.int (s.mask : Nat)) := by
  cases s with
  | br a b =>
    obtain ⟨h1, h2, _⟩ := ho
    simp only [Sw.d, v_ixT, atI_1, atI_2, List.getElem?_cons_succ, List.getElem?_cons_zero, v_ofOpt_some, Res.ok_bind, v_shl1 a (by omega), v_shl1 b (by omega), v_bor, Sw.mask]
  | sp a b =>
    obtain ⟨h1, h2, _⟩ := ho
    simp only [Sw.d, v_ixT, atI_1, atI_2, List.getElem?_cons_succ, List.getElem?_cons_zero, v_ofOpt_some, Res.ok_bind, v_shl1 a (by omega), v_shl1 b (by omega), v_bor, Sw.mask]
  | _ => cases h
theorem modN (c : Int) {b : Nat} (h : 0 < b) : ∃ k : Nat, c % (b : Int) = (k : Int) ∧ k < b :=
  ⟨(c % (b : Int)).toNat, by rw [Int.toNat_of_nonneg (Int.emod_nonneg _ (by omega))], by
    have a1 := Int.emod_nonneg c (show (b : Int) ≠ 0 by omega)
    have a2 := Int.emod_lt_of_pos c (show (0 : Int) < (b : Int) by omega)
    omega⟩
theorem and_eq_r {a b : Nat} : a &&& b = b ↔ Le b a := by
  constructor
  · intro h i hi
    rw [← h, Nat.testBit_and, Bool.and_eq_true] at hi
    exact hi.1
  · intro h
    apply Nat.eq_of_testBit_eq; intro i
    rw [Nat.testBit_and]
    have := h i
    cases q : b.testBit i <;> simp_all
theorem fset_congr {sws : List Sw} {st : Nat} {g g' : Sw → Nat} (h : ∀ s, g s = g' s) : fset g sws st = fset g' sws st := by
  have : g = g' := funext h
  rw [this]
/-- the item of an enumeration -/
theorem enum_get {sws : List Sw} {i : Nat} (h : i < ((sws.map Sw.d).zipIdx.map fun p => D.tup [.int (p.2 : Nat), p.1]).length) (h2 : i < sws.length) :
    ((sws.map Sw.d).zipIdx.map fun p => D.tup [.int (p.2 : Nat), p.1])[i] = .tup [.int (i : Nat), sws[i].d] := by
  simp
/-- what a round over the switches keeps -/
structure GrowS (P : List Nat) (sws : List Sw) (st s f : Nat) (i f' : Nat) (c : Bool) : Prop where
  lo : Le f f'
  hi : Le f' (cl P s)
  no : c = false → f' = f ∧ ∀ k, k < i → ∀ w, sws[k]? = some w → st.testBit k = true → w.long = true → f &&& w.mask ≠ 0 → Le w.mask f
  yes : c = true → f < f'
theorem GrowS.skip {P : List Nat} {sws : List Sw} {st s f i f' : Nat} {c : Bool} (g : GrowS P sws st s f i f' c) (hi : i < sws.length) (h : st.testBit i = true → sws[i].long = true → f' &&& sws[i].mask ≠ 0 → Le sws[i].mask f') : GrowS P sws st s f (i + 1) f' c :=
  ⟨g.lo, g.hi, fun hc => ⟨(g.no hc).1, fun k hk w hw hb hl hn => by
    by_cases e : k = i
    · subst e
      rw [List.getElem?_eq_getElem hi] at hw
      cases hw
      have e := (g.no hc).1
      subst e
      exact h hb hl hn
    · exact (g.no hc).2 k (by omega) w hw hb hl hn⟩, g.yes⟩
theorem GrowS.grow {sws : List Sw} {st s f i f' : Nat} {c : Bool} (g : GrowS (prs sws st) sws st s f i f' c) (hi : i < sws.length) (hb : st.testBit i = true) (hl : sws[i].long = true) (hn : f' &&& sws[i].mask ≠ 0) (hx : ¬ Le sws[i].mask f') :
    GrowS (prs sws st) sws st s f (i + 1) (f' ||| sws[i].mask) true := by
  have hp : sws[i].mask ∈ prs sws st := mem_prs.mpr ⟨i, sws[i], List.getElem?_eq_getElem hi, hb, hl, rfl⟩
  refine ⟨g.lo.trans (Le.orL _ _), cl_step g.hi hp hn, (fun hc => by cases hc), fun _ => ?_⟩
  have a1 := g.lo.le
  have a2 : f' ≤ f' ||| sws[i].mask := Nat.left_le_or
  have a3 : f' ||| sws[i].mask ≠ f' := fun e => hx (Le.of_or_eq e)
  omega
theorem GrowS.closed {sws : List Sw} {st s f f' n : Nat} (g : GrowS (prs sws st) sws st s f n f' false) (hn : sws.length ≤ n) : f' = f ∧ Cl (prs sws st) f' := by
  obtain ⟨e, h⟩ := g.no rfl
  subst e
  refine ⟨rfl, fun p hp hq => ?_⟩
  obtain ⟨k, w, h1, h2, h3, rfl⟩ := mem_prs.mp hp
  exact h k (Nat.lt_of_lt_of_le (List.getElem?_eq_some_iff.mp h1).1 hn) w h1 h2 h3 hq
theorem d_mask2 (s : Sw) (h : s.long = true) (ho : s.Ok 1000) : ∀ k : D → Res D, (((D.ix s.d (.int 1)).bind fun y => D.shl (.int 1) y).bind fun x => (((D.ix s.d (.int 2)).bind fun y => D.shl (.int 1) y).bind fun y => D.bor x y)).bind k = k (.int (s.mask : Nat)) := fun k => by
  rw [d_mask s h ho]; rfl
theorem fset_mono {g : Sw → Nat} {sws : List Sw} {st st' : Nat} (h : Le st st') : Le (fset g sws st) (fset g sws st') := fun i hi => by
  obtain ⟨k, s, h1, h2, h3⟩ := fset_bit.mp hi
  exact fset_bit.mpr ⟨k, s, h1, h k h2, h3⟩
theorem liveN_mono {sws : List Sw} {st st' : Nat} (h : Le st st') : Le (liveN sws st) (liveN sws st') := (cl_mono (fset_mono h)).trans (cl_monoP (prs_mono h) _)
theorem earthN_mono {sws : List Sw} {st st' : Nat} (h : Le st st') : Le (earthN sws st) (earthN sws st') := (cl_mono (fset_mono h)).trans (cl_monoP (prs_mono h) _)
theorem le_full {a n : Nat} (h : a < 2 ^ n) : Le a (2 ^ n - 1) := fun i hi => by
  rw [Nat.testBit_two_pow_sub_one]
  refine decide_eq_true (Nat.lt_of_not_le fun z => ?_)
  have h1 := Nat.ge_two_pow_of_testBit hi
  have h2 := Nat.pow_le_pow_right (n := 2) (by omega) z
  omega
theorem and_mono {a b c d : Nat} (h : Le a c) (k : Le b d) : Le (a &&& b) (c &&& d) := fun i hi => by
  rw [Nat.testBit_and, Bool.and_eq_true] at hi ⊢
  exact ⟨h i hi.1, k i hi.2⟩
theorem diff_mono {a b c : Nat} (h : Le a b) : Le (diff a c) (diff b c) := fun i hi => by
  rw [diff_bit, Bool.and_eq_true] at hi ⊢
  exact ⟨h i hi.1, hi.2⟩
theorem le_zero {a b : Nat} (h : Le a b) (hb : b = 0) : a = 0 := by
  subst hb
  exact Le.antisymm h (Le.zero a)
theorem v_full {n : Nat} : D.sub (.int ((2 ^ n : Nat) : Int)) (.int 1) = .ok (.int ((2 ^ n - 1 : Nat) : Int)) := by
  rw [v_sub]
  have := Nat.two_pow_pos n
  congr 2
  omega
/-! ### one deed -/
def Sw.isSp : Sw → Bool
  | .sp _ _ => true
  | _ => false
/-- the splitter's refusal -/
noncomputable def loadedN (sws : List Sw) (st k : Nat) (s : Sw) : Bool :=
  s.isSp && (!(cl (prs sws (diff st (2 ^ k))) (2 ^ s.fst)).testBit s.snd && !decide (liveN sws (diff st (2 ^ k)) &&& s.mask = 0))
noncomputable def shortN (sws : List Sw) (st : Nat) : Bool := !decide (liveN sws st &&& earthN sws st = 0)
noncomputable def deedN (sws : List Sw) (st k : Nat) (s : Sw) : Option Nat := if loadedN sws st k s = true then none else if shortN sws (st ^^^ 2 ^ k) = true then none else some (st ^^^ 2 ^ k)
def optI : Option Nat → D
  | none => .non
  | some k => .int (k : Int)
theorem word_sp (s : Sw) : decide (s.word = "splitter") = s.isSp := by
  cases s <;> rfl
theorem isSp_long {s : Sw} (h : s.isSp = true) : s.long = true := by cases s <;> first | rfl | cases h
theorem xor_lt {a b n : Nat} (ha : a < 2 ^ n) (hb : b < 2 ^ n) : a ^^^ b < 2 ^ n := Nat.xor_lt_two_pow ha hb
theorem if01 (b : Bool) : ((if b = true then (1 : Int) else 0) = 0) = (b = false) := by cases b <;> simp
theorem v_isN_non : D.isN .non .non = .ok (.bl true) := id rfl
theorem v_isnN_non : D.isnN .non .non = .ok (.bl false) := id rfl
theorem v_isN_int (i : Int) : D.isN (.int i) .non = .ok (.bl false) := id rfl
theorem v_isnN_int (i : Int) : D.isnN (.int i) .non = .ok (.bl true) := id rfl
theorem Sw.snd_lt {s : Sw} {n : Nat} (h : s.Ok n) : s.snd < n := by
  cases s with
  | feed a => exact h
  | earth a => exact h
  | br a b => exact h.2.1
  | sp a b => exact h.2.1
theorem bandn' (a b : Nat) : Builtin.bitAnd (Builtin.bitNot (b : Int)) (a : Int) = ((diff a b : Nat) : Int) := by
  have h1 : decide (0 ≤ (a : Int)) = true := decide_eq_true (by omega)
  have h2 : decide (0 ≤ Builtin.bitNot (b : Int)) = false := decide_eq_false (by unfold Builtin.bitNot; omega)
  have h3 : (Builtin.bitNot (Builtin.bitNot (b : Int))).toNat = b := by unfold Builtin.bitNot; omega
  unfold Builtin.bitAnd
  rw [h1, h2]
  simp only [h3, Int.toNat_natCast]
  have := diff_add a b
  omega
theorem v_bandn' (a b : Nat) : D.band (.int (Builtin.bitNot (b : Int))) (.int (a : Int)) = .ok (.int (diff a b : Nat)) := by
  show Res.ok (D.int (Builtin.bitAnd _ _)) = _
  rw [bandn']
theorem bnot_bit : True := trivial
end RL

/-! RM4: going on. -/
namespace RL
open PySem L2
/-- on it goes, with a state as R says -/
def Nxt {τ κ : Type} (R : τ → Prop) (r : Res (Fl τ τ κ)) : Prop := ∃ t, (r = .ok (.nx t) ∨ r = .ok (.ct t)) ∧ R t
section
variable {α τ τ' κ : Type}
theorem Nxt.nx {R : τ → Prop} {t : τ} (h : R t) : Nxt (κ := κ) R (.ok (.nx t)) := ⟨t, .inl rfl, h⟩
theorem Nxt.ct {R : τ → Prop} {t : τ} (h : R t) : Nxt (κ := κ) R (.ok (.ct t)) := ⟨t, .inr rfl, h⟩
theorem told_loopN {f : α → τ → Res (Fl τ τ Unit)} {k : τ → Me} {R : Res D} (I : Nat → τ → Prop) {ds : List α} {s : τ} (h0 : I 0 s)
    (hs : ∀ i (h : i < ds.length) s, I i s → Nxt (I (i + 1)) (f ds[i] s)) (hk : ∀ t, I ds.length t → told (k t) = R) : told (andThen (loop ds s f) k) = R := told_loop I h0 hs hk
theorem tloop_exN {f : α → τ → Res (Fl τ τ Unit)} {k : τ → Me} {P : Res D → Prop} (I : Nat → τ → Prop) {ds : List α} {s : τ} (h0 : I 0 s)
    (hs : ∀ i (h : i < ds.length) s, I i s → Nxt (I (i + 1)) (f ds[i] s)) (hk : ∀ t, I ds.length t → P (told (k t))) : P (told (andThen (loop ds s f) k)) := tloop_ex I h0 hs hk
theorem loopN {f : α → τ → Res (Fl τ τ κ)} {k : τ → Res (Fl τ' τ' κ)} {R : τ' → Prop} (I : Nat → τ → Prop) {ds : List α} {s : τ} (h0 : I 0 s)
    (hs : ∀ i (h : i < ds.length) s, I i s → Nxt (I (i + 1)) (f ds[i] s)) (hk : ∀ t, I ds.length t → Nxt R (k t)) : Nxt R (andThen (loop ds s f) k) := step_loop (β := τ) I h0 hs hk
theorem andN {X : Res (Fl τ τ' κ)} {k : τ → Res (Fl τ' τ' κ)} {R : τ' → Prop} (A : τ → Prop) (h : ∃ t, X = .ok (.nx t) ∧ A t) (hk : ∀ t, A t → Nxt R (k t)) : Nxt R (andThen X k) := by
  obtain ⟨t, e, a⟩ := h
  rw [e]; exact hk t a
theorem at_loopN {β : Type} {f : α → τ → Res (Fl τ τ κ)} {k : τ → Res (Fl τ' β κ)} {R : Res (Fl τ' β κ)} (I : Nat → τ → Prop) {ds : List α} {s : τ} (h0 : I 0 s)
    (hs : ∀ i (h : i < ds.length) s, I i s → Nxt (I (i + 1)) (f ds[i] s)) (hk : ∀ t, I ds.length t → k t = R) : andThen (loop ds s f) k = R := at_loop I h0 hs hk
theorem exA {β : Type} {X : Res (Fl τ τ' κ)} {k : τ → Res (Fl β τ' κ)} {A : β → Prop} (B : τ → Prop) (h : ∃ t, X = .ok (.nx t) ∧ B t) (hk : ∀ t, B t → ∃ u, k t = .ok (.nx u) ∧ A u) : ∃ u, andThen X k = .ok (.nx u) ∧ A u := by
  obtain ⟨t, e, a⟩ := h
  rw [e]; exact hk t a
end
theorem notB (b : Bool) : ((!b) = true) = (b = false) := by cases b <;> simp
theorem le_iff_and {a b : Nat} : a &&& b = a ↔ Le a b := by rw [Nat.and_comm]; exact and_eq_r
theorem diff_and {a b : Nat} : decide (diff a b = 0) = decide (a &&& b = a) := decide_eq_decide.mpr (diff_zero.trans le_iff_and.symm)
/-! ### a set's bars in a list -/
def bitsOf (s : Nat) : List Nat := (List.range s).filter fun i => s.testBit i
theorem range_cut {p : Nat → Bool} {k m : Nat} (hkm : k ≤ m) (hk : ∀ i, k ≤ i → p i = false) : (List.range m).filter p = (List.range k).filter p := by
  have e : m = k + (m - k) := by omega
  rw [e, List.range_add, List.filter_append]
  have e2 : ((List.range (m - k)).map (k + ·)).filter p = [] := by
    rw [List.filter_eq_nil_iff]
    intro a ha
    obtain ⟨j, _, rfl⟩ := List.mem_map.mp ha
    rw [hk _ (by omega)]; simp
  rw [e2, List.append_nil]
theorem range_any {p : Nat → Bool} {k m : Nat} (hk : ∀ i, k ≤ i → p i = false) (hm : ∀ i, m ≤ i → p i = false) : (List.range m).filter p = (List.range k).filter p := by
  by_cases h : k ≤ m
  · exact range_cut h hk
  · exact (range_cut (by omega) hm).symm
theorem bits_above {s i : Nat} (h : s ≤ i) : s.testBit i = false := by
  cases q : s.testBit i with
  | false => rfl
  | true => have := bit_lt q; omega
theorem shr_zero {s k : Nat} (h : s >>> k = 0) : ∀ i, k ≤ i → s.testBit i = false := fun i hi => by
  have e : (s >>> k).testBit (i - k) = s.testBit i := by rw [Nat.testBit_shiftRight]; congr 1; omega
  rw [← e, h]; simp
theorem mem_bitsOf {s i : Nat} : i ∈ bitsOf s ↔ s.testBit i = true := by
  unfold bitsOf
  rw [List.mem_filter, List.mem_range]
  exact ⟨fun h => h.2, fun h => ⟨bit_lt h, h⟩⟩
theorem bitsOf_nil {s : Nat} : bitsOf s = [] ↔ s = 0 := by
  constructor
  · intro h
    apply Nat.eq_of_testBit_eq; intro i
    rw [Nat.zero_testBit]
    cases q : s.testBit i with
    | false => rfl
    | true => have := mem_bitsOf.mpr q; rw [h] at this; cases this
  · rintro rfl; rfl
theorem fset_st0 (g : Sw → Nat) (sws : List Sw) : fset g sws 0 = 0 := by
  apply Nat.eq_of_testBit_eq; intro i
  rw [Nat.zero_testBit]
  cases q : (fset g sws 0).testBit i with
  | false => rfl
  | true =>
    obtain ⟨k, s, _, h, _⟩ := fset_bit.mp q
    simp at h
theorem liveN_0 (sws : List Sw) : liveN sws 0 = 0 := by unfold liveN; rw [fset_st0, cl_zero]
theorem earthN_0 (sws : List Sw) : earthN sws 0 = 0 := by unfold earthN; rw [fset_st0, cl_zero]
theorem short_one (sws : List Sw) (k : Nat) : shortN sws (2 ^ k) = false := by
  have h : liveN sws (2 ^ k) &&& earthN sws (2 ^ k) = 0 := by
    by_cases z : fset Sw.emask sws (2 ^ k) = 0
    · unfold earthN; rw [z, cl_zero, Nat.and_zero]
    · obtain ⟨i, hi⟩ := Nat.exists_testBit_of_ne_zero z
      obtain ⟨j, s, h1, h2, h3⟩ := fset_bit.mp hi
      have hf : fset Sw.fmask sws (2 ^ k) = 0 := by
        apply Nat.eq_of_testBit_eq; intro i'
        rw [Nat.zero_testBit]
        cases q : (fset Sw.fmask sws (2 ^ k)).testBit i' with
        | false => rfl
        | true =>
          obtain ⟨j', s', h1', h2', h3'⟩ := fset_bit.mp q
          rw [Nat.testBit_two_pow] at h2 h2'
          have e1 : k = j := of_decide_eq_true h2
          have e2 : k = j' := of_decide_eq_true h2'
          subst e1 e2
          rw [h1] at h1'; cases h1'
          cases s <;> simp [Sw.emask, Sw.fmask] at h3 h3'
      unfold liveN; rw [hf, cl_zero, Nat.zero_and]
  unfold shortN
  rw [h]; rfl
theorem short_0 (sws : List Sw) : shortN sws 0 = false := by
  unfold shortN; rw [liveN_0, Nat.zero_and]; rfl
theorem loaded_0 (sws : List Sw) (k : Nat) (s : Sw) : loadedN sws 0 k s = false := by
  have e : diff 0 (2 ^ k) = 0 := diff_zero.mpr (Le.zero _)
  unfold loadedN
  rw [e, liveN_0, Nat.zero_and]
  simp
theorem loaded_one (sws : List Sw) (k : Nat) (s : Sw) : loadedN sws (2 ^ k) k s = false := by
  have e : diff (2 ^ k) (2 ^ k) = 0 := diff_zero.mpr (Le.refl _)
  unfold loadedN
  rw [e, liveN_0, Nat.zero_and]
  simp
theorem v_addLL {l m : List D} (h : l.length + m.length ≤ 16777216) : D.add (.lst l) (.lst m) = .ok (.lst (l ++ m)) := if_pos h
theorem fm_some {α β : Type} (f : α → β) (l : List α) : l.filterMap (fun x => some (f x)) = l.map f := by
  induction l with
  | nil => rfl
  | cons a l ih => simp
/-! ### how many -/
def cntN : Nat → Nat → Nat
  | 0, _ => 0
  | n + 1, s => cntN n s + (if s.testBit n = true then 1 else 0)
theorem cntN_le : ∀ n s, cntN n s ≤ n
  | 0, _ => Nat.le_refl _
  | n + 1, s => by
    have := cntN_le n s
    unfold cntN
    split <;> omega
theorem cntN_mono {a b : Nat} (h : Le a b) : ∀ n, cntN n a ≤ cntN n b
  | 0 => Nat.le_refl _
  | n + 1 => by
    have := cntN_mono h n
    have h2 := h n
    unfold cntN
    split <;> split <;> simp_all <;> omega
theorem cntN_lt {a b : Nat} (h : Le a b) : ∀ n i, i < n → b.testBit i = true → a.testBit i = false → cntN n a < cntN n b
  | 0, i, hi, _, _ => absurd hi (Nat.not_lt_zero _)
  | n + 1, i, hi, hb, ha => by
    unfold cntN
    by_cases e : i = n
    · subst e
      have := cntN_mono h i
      rw [hb, ha]
      simp; omega
    · have := cntN_lt h n i (by omega) hb ha
      have h2 := h n
      split <;> split <;> simp_all <;> omega
theorem cntN_ne {a b n : Nat} (h : Le a b) (hne : a ≠ b) (hb : b < 2 ^ n) : cntN n a < cntN n b := by
  have : ¬ Le b a := fun z => hne (h.antisymm z)
  have ⟨i, hi⟩ : ∃ i, b.testBit i = true ∧ a.testBit i = false := by
    refine Classical.byContradiction fun no => this fun i hi => ?_
    cases q : a.testBit i with
    | true => rfl
    | false => exact absurd ⟨i, hi, q⟩ no
  refine cntN_lt h n i (Nat.lt_of_not_le fun z => ?_) hi.1 hi.2
  have h1 := Nat.ge_two_pow_of_testBit hi.1
  have h2 := Nat.pow_le_pow_right (n := 2) (by omega) z
  omega
theorem cl_near {P : List Nat} {s f : Nat} (h : NearS P s f) : cl P f = cl P s :=
  Le.antisymm (cl_least (h.low _ (cl_le P s) (cl_cl P s)) (cl_cl P s)) (cl_mono h.up)
theorem v_range2 {i j : Int} (h1 : D.inB62 i = true) (h2 : D.inB62 j = true) : D.range2 (.int i) (.int j) = .ok (D.rng i (j - i).toNat) := by
  unfold D.range2
  simp only
  rw [if_pos ⟨h1, h2⟩]
theorem inB62_ok {i : Int} (h1 : -4611686018427387904 ≤ i) (h2 : i < 4611686018427387904) : D.inB62 i = true := by
  unfold D.inB62
  rw [Bool.and_eq_true]
  exact ⟨decide_eq_true h1, decide_eq_true h2⟩
/-! ### a splitter turned -/
theorem xor_bit (st k i : Nat) : (st ^^^ 2 ^ k).testBit i = if i = k then !st.testBit i else st.testBit i := by
  rw [Nat.testBit_xor, Nat.testBit_two_pow]
  by_cases e : i = k
  · subst e; simp
  · have e2 : ¬ k = i := fun z => e z.symm
    simp [e, e2]
theorem diff_two (st k i : Nat) : (diff st (2 ^ k)).testBit i = if i = k then false else st.testBit i := by
  rw [diff_bit, Nat.testBit_two_pow]
  by_cases e : i = k
  · subst e; simp
  · have e2 : ¬ k = i := fun z => e z.symm
    simp [e, e2]
theorem diff_xor (st k : Nat) : diff (st ^^^ 2 ^ k) (2 ^ k) = diff st (2 ^ k) := by
  apply Nat.eq_of_testBit_eq; intro i
  rw [diff_two, diff_two, xor_bit]
  split <;> rfl
theorem xor_xor (st k : Nat) : (st ^^^ 2 ^ k) ^^^ 2 ^ k = st := by
  apply Nat.eq_of_testBit_eq; intro i
  rw [xor_bit, xor_bit]
  split <;> simp
theorem xor_on {st k : Nat} (h : st.testBit k = true) : st ^^^ 2 ^ k = diff st (2 ^ k) := by
  apply Nat.eq_of_testBit_eq; intro i
  rw [xor_bit, diff_two]
  by_cases e : i = k
  · subst e; simp [h]
  · simp [e]
theorem loaded_xor (sws : List Sw) (st k : Nat) (s : Sw) : loadedN sws (st ^^^ 2 ^ k) k s = loadedN sws st k s := by unfold loadedN; rw [diff_xor]
theorem short_mono {sws : List Sw} {st st' : Nat} (h : Le st st') (hs : shortN sws st' = false) : shortN sws st = false := by
  unfold shortN at hs ⊢
  have e : liveN sws st' &&& earthN sws st' = 0 := by simpa using hs
  have := le_zero (and_mono (liveN_mono h) (earthN_mono h)) e
  rw [this]; rfl
theorem fset_apart {g : Sw → Nat} {sws : List Sw} {st k : Nat} {s : Sw} (hk : sws[k]? = some s) (hs : g s = 0) : fset g sws (diff st (2 ^ k)) = fset g sws st := by
  apply Nat.eq_of_testBit_eq; intro i
  apply Bool.eq_iff_iff.mpr
  rw [fset_bit, fset_bit]
  constructor
  · rintro ⟨j, t, h1, h2, h3⟩
    exact ⟨j, t, h1, diff_le _ _ _ h2, h3⟩
  · rintro ⟨j, t, h1, h2, h3⟩
    refine ⟨j, t, h1, ?_, h3⟩
    rw [diff_two]
    by_cases e : j = k
    · subst e
      rw [hk] at h1; cases h1
      rw [hs] at h3; simp at h3
    · simp [e, h2]
theorem prs_apart {sws : List Sw} {st k : Nat} {s : Sw} (hk : sws[k]? = some s) : ∀ p ∈ prs sws st, p ∈ prs sws (diff st (2 ^ k)) ∨ p = s.mask := fun p hp => by
  obtain ⟨j, t, h1, h2, h3, rfl⟩ := mem_prs.mp hp
  by_cases e : j = k
  · subst e
    rw [hk] at h1; cases h1
    exact .inr rfl
  · refine .inl (mem_prs.mpr ⟨j, t, h1, ?_, h3, rfl⟩)
    rw [diff_two]; simp [e, h2]
/-- nothing live is parted or joined -/
theorem apart_same {sws : List Sw} {st k : Nat} {s : Sw} (hk : sws[k]? = some s) (hsp : s.isSp = true) (hl : loadedN sws st k s = false) :
    liveN sws st = liveN sws (diff st (2 ^ k)) ∧ ∀ b, (liveN sws (diff st (2 ^ k))).testBit b = true → cl (prs sws st) (2 ^ b) = cl (prs sws (diff st (2 ^ k))) (2 ^ b) := by
  have q2 := isSp_long hsp
  have hcase : Rch (prs sws (diff st (2 ^ k))) s.fst s.snd ∨ liveN sws (diff st (2 ^ k)) &&& s.mask = 0 := by
    unfold loadedN at hl
    rw [hsp] at hl
    cases z : (cl (prs sws (diff st (2 ^ k))) (2 ^ s.fst)).testBit s.snd with
    | true =>
      left
      obtain ⟨c, h1, h2⟩ := (cl_bit _ _ _).mp z
      rw [Nat.testBit_two_pow] at h1
      have e : s.fst = c := of_decide_eq_true h1
      subst e; exact h2
    | false =>
      right
      rw [z] at hl
      simpa using hl
  have hle := diff_le st (2 ^ k)
  have key : ∀ v c, (liveN sws (diff st (2 ^ k))).testBit v = true → Rch (prs sws st) v c → Rch (prs sws (diff st (2 ^ k))) v c := by
    intro v c hv r
    induction r with
    | refl => exact .refl _
    | step r hp hb hc ih =>
      rename_i x y p
      rcases prs_apart hk p hp with h | h
      · exact .step ih h hb hc
      · subst h
        rcases hcase with hr | hz
        · have one : ∀ z, s.mask.testBit z = true → Rch (prs sws (diff st (2 ^ k))) s.fst z := fun z hz => by
            rcases (s.mask_bit q2 z).mp hz with e | e
            · subst e; exact .refl _
            · subst e; exact hr
          exact ih.trans ((one _ hb).symm.trans (one _ hc))
        · exfalso
          refine absurd hz (and_ne.mpr ⟨x, ?_, hb⟩)
          obtain ⟨j, j1, j2⟩ := (cl_bit _ _ _).mp hv
          exact (cl_bit _ _ _).mpr ⟨j, j1, j2.trans ih⟩
  have hF : fset Sw.fmask sws (diff st (2 ^ k)) = fset Sw.fmask sws st := fset_apart hk (by cases s <;> first | rfl | cases hsp)
  refine ⟨Le.antisymm (fun i hi => ?_) (liveN_mono hle), fun b hb => Le.antisymm (fun i hi => ?_) (cl_monoP (prs_mono hle) _)⟩
  · obtain ⟨j, j1, j2⟩ := (cl_bit _ _ _).mp hi
    rw [← hF] at j1
    exact (cl_bit _ _ _).mpr ⟨j, j1, key j i (cl_le _ _ _ j1) j2⟩
  · obtain ⟨j, j1, j2⟩ := (cl_bit _ _ _).mp hi
    rw [Nat.testBit_two_pow] at j1
    have e : b = j := of_decide_eq_true j1
    subst e
    exact (cl_bit _ _ _).mpr ⟨b, Nat.testBit_two_pow_self, key b i hb j2⟩
theorem v_range1' {n : Nat} (h : n ≤ 1000000) : D.range1 (.int (n : Int)) = .ok ((List.range n).map fun (i : Nat) => D.int (i : Int)) := v_range1 n (Nat.lt_of_le_of_lt h (by decide))
theorem ne_nil (sws : List Sw) : D.ne (.lst (sws.map Sw.d)) (.lst []) = .ok (.bl (!decide (sws = []))) := by
  cases sws with
  | nil => exact v_ne_self (n := 3) (by simp [okE]) (by decide)
  | cons s r =>
    have h1 : okE 2 (.lst ((s :: r).map Sw.d)) = true := by
      have h := ok_yd 0 (s :: r)
      simp [okE, yd] at h ⊢
      exact h
    rw [v_ne_ok h1 (show okE 2 (.lst []) = true by simp [okE]) (by decide) (by decide)]
    simp
end RL

/-! RM5: loops that may return; ways. -/
namespace RL
open PySem L2
section
variable {α τ β κ : Type}
theorem loop_rt {f : α → τ → Res (Fl τ τ κ)} (I : Nat → τ → Prop) (Rt : D → κ → Prop) (ds : List α) (s : τ) (h0 : I 0 s)
    (hs : ∀ i (h : i < ds.length) s, I i s → Nxt (I (i + 1)) (f ds[i] s) ∨ ∃ d c, f ds[i] s = .ok (.rt d c) ∧ Rt d c) :
    (∃ t, loop (β := β) ds s f = .ok (.nx t) ∧ I ds.length t) ∨ ∃ d c, loop (β := β) ds s f = .ok (.rt d c) ∧ Rt d c := by
  have key : ∀ (k i : Nat) (s : τ), ds.length - i = k → i ≤ ds.length → I i s → (∃ t, loop (β := β) (ds.drop i) s f = .ok (.nx t) ∧ I ds.length t) ∨ ∃ d c, loop (β := β) (ds.drop i) s f = .ok (.rt d c) ∧ Rt d c := by
    intro k
    induction k with
    | zero =>
      intro i s hk hi h
      have e : i = ds.length := by omega
      subst e
      exact .inl ⟨s, by rw [List.drop_length]; rfl, h⟩
    | succ k ih =>
      intro i s hk hi h
      have hi' : i < ds.length := by omega
      rw [List.drop_eq_getElem_cons hi']
      rcases hs i hi' s h with ⟨t, h1, h2⟩ | ⟨d, c, h1, h2⟩
      · rcases ih (i + 1) t (by omega) hi' h2 with ⟨t', h3, h4⟩ | ⟨d, c, h3, h4⟩
        · refine .inl ⟨t', ?_, h4⟩
          unfold loop
          rcases h1 with h1 | h1 <;> rw [h1] <;> exact h3
        · refine .inr ⟨d, c, ?_, h4⟩
          unfold loop
          rcases h1 with h1 | h1 <;> rw [h1] <;> exact h3
      · refine .inr ⟨d, c, ?_, h2⟩
        unfold loop
        rw [h1]
  simpa using key ds.length 0 s rfl (Nat.zero_le _) h0
theorem whl_rt {c : τ → Res Bool} {f : τ → Res (Fl τ τ κ)} (I : τ → Prop) (μ : τ → Nat) (Rt : D → κ → Prop)
    (hstep : ∀ s, I s → ∃ b, c s = .ok b ∧ (b = true → Nxt (fun t => I t ∧ μ t < μ s) (f s) ∨ ∃ d k, f s = .ok (.rt d k) ∧ Rt d k)) :
    ∀ (n : Nat) (s : τ), I s → μ s < n → (∃ t, whl (β := β) n s c f = .ok (.nx t) ∧ I t ∧ c t = .ok false) ∨ ∃ d k, whl (β := β) n s c f = .ok (.rt d k) ∧ Rt d k
  | 0, s, _, h => absurd h (Nat.not_lt_zero _)
  | n + 1, s, hI, h => by
    obtain ⟨b, hb, hf⟩ := hstep s hI
    unfold whl
    rw [hb]
    cases b with
    | false => exact .inl ⟨s, rfl, hI, hb⟩
    | true =>
      simp only [Res.ok_bind, if_true]
      rcases hf rfl with ⟨t, h1, h2, h3⟩ | ⟨d, k, h1, h2⟩
      · rcases whl_rt I μ Rt hstep n t h2 (by omega) with ⟨t', h4, h5⟩ | ⟨d, k, h4, h5⟩
        · refine .inl ⟨t', ?_, h5⟩
          rcases h1 with h1 | h1 <;> rw [h1] <;> exact h4
        · refine .inr ⟨d, k, ?_, h5⟩
          rcases h1 with h1 | h1 <;> rw [h1] <;> exact h4
      · rw [h1]; exact .inr ⟨d, k, rfl, h2⟩
end
/-- on it goes, or a value is told -/
def Stp {τ κ : Type} (R : τ → Prop) (Rt : D → κ → Prop) (r : Res (Fl τ τ κ)) : Prop := Nxt R r ∨ ∃ d c, r = .ok (.rt d c) ∧ Rt d c
theorem Stp.nx {τ κ : Type} {R : τ → Prop} {Rt : D → κ → Prop} {t : τ} (h : R t) : Stp R Rt (.ok (.nx t)) := .inl (.nx h)
theorem Stp.rt {τ κ : Type} {R : τ → Prop} {Rt : D → κ → Prop} {d : D} {c : κ} (h : Rt d c) : Stp R Rt (.ok (.rt d c)) := .inr ⟨d, c, rfl, h⟩
theorem stp_loop {α τ τ' κ : Type} {f : α → τ → Res (Fl τ τ κ)} {k : τ → Res (Fl τ' τ' κ)} {R : τ' → Prop} {Rt : D → κ → Prop} (I : Nat → τ → Prop) {ds : List α} {s : τ} (h0 : I 0 s)
    (hs : ∀ i (h : i < ds.length) s, I i s → Stp (I (i + 1)) Rt (f ds[i] s)) (hk : ∀ t, I ds.length t → Stp R Rt (k t)) : Stp R Rt (andThen (loop ds s f) k) := by
  rcases loop_rt (β := τ') I Rt ds s h0 hs with ⟨t, h1, h2⟩ | ⟨d, c, h1, h2⟩
  · rw [h1]; exact hk t h2
  · rw [h1]; exact .rt h2
theorem told_whlR {τ : Type} {c : τ → Res Bool} {f : τ → Res (Fl τ τ Unit)} {k : τ → Me} {P : Res D → Prop} {n : Nat} {s : τ} (I : τ → Prop) (μ : τ → Nat) (Rt : D → Unit → Prop) (h0 : I s) (hn : μ s < n)
    (hstep : ∀ s, I s → ∃ b, c s = .ok b ∧ (b = true → Stp (fun t => I t ∧ μ t < μ s) Rt (f s))) (hk : ∀ t, I t → c t = .ok false → P (told (k t))) (hr : ∀ d u, Rt d u → P (.ok d)) : P (told (andThen (whl n s c f) k)) := by
  rcases whl_rt (β := Empty) I μ Rt hstep n s h0 hn with ⟨t, h1, h2, h3⟩ | ⟨d, u, h1, h2⟩
  · rw [h1]; exact hk t h2 h3
  · rw [h1]; exact hr d u h2
theorem told_loopR {α τ : Type} {f : α → τ → Res (Fl τ τ Unit)} {k : τ → Me} {P : Res D → Prop} (I : Nat → τ → Prop) (Rt : D → Unit → Prop) {ds : List α} {s : τ} (h0 : I 0 s)
    (hs : ∀ i (h : i < ds.length) s, I i s → Stp (I (i + 1)) Rt (f ds[i] s)) (hk : ∀ t, I ds.length t → P (told (k t))) (hr : ∀ d u, Rt d u → P (.ok d)) : P (told (andThen (loop ds s f) k)) := by
  rcases loop_rt (β := Empty) I Rt ds s h0 hs with ⟨t, h1, h2⟩ | ⟨d, u, h1, h2⟩
  · rw [h1]; exact hk t h2
  · rw [h1]; exact hr d u h2
/-! ### ways -/
/-- the shut switch k joins b and c -/
def Edge (sws : List Sw) (st : Nat) (k b c : Nat) : Prop := ∃ w, sws[k]? = some w ∧ st.testBit k = true ∧ w.long = true ∧ w.mask.testBit b = true ∧ w.mask.testBit c = true ∧ b ≠ c
theorem Edge.symm {sws : List Sw} {st k b c : Nat} (h : Edge sws st k b c) : Edge sws st k c b := by
  obtain ⟨w, h1, h2, h3, h4, h5, h6⟩ := h
  exact ⟨w, h1, h2, h3, h5, h4, Ne.symm h6⟩
/-- a way from a to b, its switches told from the end -/
inductive Tr (sws : List Sw) (st : Nat) : Nat → List Nat → Nat → Prop
  | nil (a : Nat) : Tr sws st a [] a
  | cons {a b c k : Nat} {ks : List Nat} (h : Tr sws st a ks b) (e : Edge sws st k b c) : Tr sws st a (k :: ks) c
theorem Tr.snoc {sws : List Sw} {st a b c k : Nat} {ks : List Nat} (e : Edge sws st k a b) (h : Tr sws st b ks c) : Tr sws st a (ks ++ [k]) c := by
  induction h with
  | nil => exact .cons (.nil a) e
  | cons _ e2 ih => exact .cons ih e2
theorem Tr.rev {sws : List Sw} {st a c : Nat} {ks : List Nat} (h : Tr sws st a ks c) : Tr sws st c ks.reverse a := by
  induction h with
  | nil => exact .nil _
  | cons _ e ih => rw [List.reverse_cons]; exact Tr.snoc e.symm ih
theorem Tr.rch {sws : List Sw} {st a c : Nat} {ks : List Nat} (h : Tr sws st a ks c) : Rch (prs sws st) a c := by
  induction h with
  | nil => exact .refl _
  | cons _ e ih =>
    obtain ⟨w, h1, h2, h3, h4, h5, _⟩ := e
    exact .step ih (mem_prs.mpr ⟨_, w, h1, h2, h3, rfl⟩) h4 h5
theorem Rch.tr {sws : List Sw} {st a c : Nat} (h : Rch (prs sws st) a c) : ∃ ks, Tr sws st a ks c := by
  induction h with
  | refl => exact ⟨[], .nil _⟩
  | step _ hp hb hc ih =>
    obtain ⟨ks, t⟩ := ih
    obtain ⟨k, w, h1, h2, h3, rfl⟩ := mem_prs.mp hp
    refine Classical.byCases (fun e => ?_) fun e => ⟨k :: ks, .cons t ⟨w, h1, h2, h3, hb, hc, e⟩⟩
    rw [e] at t; exact ⟨ks, t⟩
/-- b is so many switches away from the bars s -/
def Dst (sws : List Sw) (st s b d : Nat) : Prop := (∃ a ks, s.testBit a = true ∧ Tr sws st a ks b ∧ ks.length = d) ∧ ∀ a ks, s.testBit a = true → Tr sws st a ks b → d ≤ ks.length
/-- what way tells -/
def WayS (sws : List Sw) (st s g : Nat) : Option (List Nat) → Prop
  | none => cl (prs sws st) s &&& g = 0
  | some ks => (∃ a b, s.testBit a = true ∧ g.testBit b = true ∧ Tr sws st a ks.reverse b) ∧ ∀ a b ls, s.testBit a = true → g.testBit b = true → Tr sws st a ls b → ks.length ≤ ls.length
/-- a bar that was found: how far, and by which switch from which bar -/
structure Ent where
  bar : Nat
  dep : Nat
  par : Option (Nat × Nat)
def Ent.kv (e : Ent) : Option (Key × D) := e.par.map fun p => (.inl (e.bar : Int), .tup [.int (p.1 : Nat), .int (p.2 : Nat)])
theorem look_came {L : List Ent} (nd : (L.map Ent.bar).Nodup) {e : Ent} (he : e ∈ L) : D.look (L.filterMap Ent.kv) (Sum.inl (e.bar : Int) : Key) = e.par.map fun p => .tup [.int (p.1 : Nat), .int (p.2 : Nat)] := by
  induction L with
  | nil => cases he
  | cons x r ih =>
    rw [List.map_cons, List.nodup_cons] at nd
    rcases List.mem_cons.mp he with rfl | he
    · cases q : e.par with
      | none =>
        rw [List.filterMap_cons_none (by unfold Ent.kv; rw [q]; rfl)]
        have : ∀ y ∈ r, y.bar ≠ e.bar := fun y hy z => nd.1 (List.mem_map.mpr ⟨y, hy, z⟩)
        clear ih nd he
        induction r with
        | nil => rfl
        | cons y r ih =>
          have hy := this y List.mem_cons_self
          cases q2 : y.par with
          | none =>
            rw [List.filterMap_cons_none (by unfold Ent.kv; rw [q2]; rfl)]
            exact ih fun z hz => this z (List.mem_cons_of_mem _ hz)
          | some p =>
            rw [List.filterMap_cons_some (b := (Sum.inl (y.bar : Int), .tup [.int (p.1 : Nat), .int (p.2 : Nat)])) (by unfold Ent.kv; rw [q2]; rfl)]
            unfold D.look
            rw [if_neg (by intro z; exact hy (Int.ofNat_inj.mp (Sum.inl.inj z)))]
            exact ih fun z hz => this z (List.mem_cons_of_mem _ hz)
      | some p =>
        rw [List.filterMap_cons_some (b := (Sum.inl (e.bar : Int), .tup [.int (p.1 : Nat), .int (p.2 : Nat)])) (by unfold Ent.kv; rw [q]; rfl)]
        unfold D.look
        rw [if_pos rfl]; rfl
    · have hx : x.bar ≠ e.bar := fun z => nd.1 (List.mem_map.mpr ⟨e, he, z.symm⟩)
      cases q : x.par with
      | none =>
        rw [List.filterMap_cons_none (by unfold Ent.kv; rw [q]; rfl)]
        exact ih nd.2 he
      | some p =>
        rw [List.filterMap_cons_some (b := (Sum.inl (x.bar : Int), .tup [.int (p.1 : Nat), .int (p.2 : Nat)])) (by unfold Ent.kv; rw [q]; rfl)]
        unfold D.look
        rw [if_neg (by intro z; exact hx (Int.ofNat_inj.mp (Sum.inl.inj z)))]
        exact ih nd.2 he
/-- what the search keeps -/
structure BfsS (sws : List Sw) (st s g : Nat) (seen : Nat) (L : List Ent) (at_ : Nat) : Prop where
  bits : ∀ b, seen.testBit b = true ↔ ∃ e ∈ L, e.bar = b
  nd : (L.map Ent.bar).Nodup
  dst : ∀ e ∈ L, Dst sws st s e.bar e.dep
  root : ∀ e ∈ L, e.par = none → e.dep = 0 ∧ s.testBit e.bar = true
  par : ∀ e ∈ L, ∀ k q, e.par = some (k, q) → Edge sws st k q e.bar ∧ ∃ e' ∈ L, e'.bar = q ∧ e'.dep + 1 = e.dep
  srt : ∀ i j (hi : i < L.length) (hj : j < L.length), i ≤ j → L[i].dep ≤ L[j].dep
  top : ∀ (h : at_ < L.length), ∀ e ∈ L, e.dep ≤ L[at_].dep + 1
  done : ∀ i (hi : i < L.length), i < at_ → ∀ p ∈ prs sws st, p.testBit L[i].bar = true → Le p seen
  out : g &&& seen = 0
  le : Le s seen
/-- who is nearer than the one looked at is seen -/
theorem BfsS.near {sws : List Sw} {st s g seen : Nat} {L : List Ent} {at_ : Nat} (B : BfsS sws st s g seen L at_) (h : at_ < L.length) {a b : Nat} {ks : List Nat} (ha : s.testBit a = true) (t : Tr sws st a ks b) : ks.length ≤ L[at_].dep → seen.testBit b = true := by
  induction t with
  | nil => exact fun _ => B.le _ ha
  | cons t e ih =>
    intro hl
    rename_i b c k ks
    rw [List.length_cons] at hl
    have hb := ih (by omega)
    obtain ⟨x, hx, rfl⟩ := (B.bits _).mp hb
    have hd := (B.dst x hx).2 _ _ ha t
    obtain ⟨i, hi, rfl⟩ := List.getElem_of_mem hx
    have hlt : i < at_ := by
      refine Nat.lt_of_not_le fun z => ?_
      have := B.srt at_ i h hi z
      omega
    obtain ⟨w, h1, h2, h3, h4, h5, _⟩ := e
    exact B.done i hi hlt _ (mem_prs.mpr ⟨k, w, h1, h2, h3, rfl⟩) h4 _ h5
theorem nodup_lt : ∀ (n : Nat) (l : List Nat), l.Nodup → (∀ x ∈ l, x < n) → l.length ≤ n
  | 0, l, _, h => by
    cases l with
    | nil => exact Nat.le_refl _
    | cons x r => exact absurd (h x List.mem_cons_self) (Nat.not_lt_zero _)
  | n + 1, l, hd, h => by
    by_cases hm : n ∈ l
    · have h1 := nodup_lt n (l.erase n) (hd.erase n) fun x hx => by
        have hx2 := (List.Nodup.mem_erase_iff hd).mp hx
        have := h x hx2.2
        have := hx2.1
        omega
      rw [List.length_erase_of_mem hm] at h1
      omega
    · have h1 := nodup_lt n l hd fun x hx => by
        have := h x hx
        have : x ≠ n := fun z => hm (z ▸ hx)
        omega
      omega
theorem bits_two (c : Nat) : Builtin.Int.intBits ((2 ^ c : Nat) : Int) = c + 1 := by
  unfold Builtin.Int.intBits
  have h : (((2 ^ c : Nat) : Int) == 0) = false := by
    have := Nat.two_pow_pos c
    exact beq_eq_false_iff_ne.mpr (by omega)
  rw [h]
  simp only [Bool.false_eq_true, if_false, Int.natAbs_natCast]
  rw [Nat.log2_two_pow]
/-- the other bar of a pair -/
theorem other_bit {w : Sw} {n x : Nat} (hl : w.long = true) (ho : w.Ok n) (hx : w.mask.testBit x = true) : ∃ c, diff w.mask (2 ^ x) = 2 ^ c ∧ w.mask.testBit c = true ∧ c ≠ x ∧ c < n := by
  have hne : w.fst ≠ w.snd := by
    cases w with
    | br a b => exact ho.2.2
    | sp a b => exact ho.2.2
    | _ => cases hl
  have key : ∀ c, w.mask.testBit c = true → c ≠ x → diff w.mask (2 ^ x) = 2 ^ c := fun c hc hcx => by
    apply Nat.eq_of_testBit_eq; intro i
    rw [diff_two, Nat.testBit_two_pow]
    by_cases e : i = x
    · subst e
      simp [hcx]
    · rw [if_neg e]
      have hx2 := (w.mask_bit hl x).mp hx
      have hc2 := (w.mask_bit hl c).mp hc
      cases q : w.mask.testBit i with
      | true =>
        have hi2 := (w.mask_bit hl i).mp q
        have : c = i := by omega
        simp [this]
      | false =>
        have : c ≠ i := fun z => by rw [← z, hc] at q; cases q
        simp [this]
  rcases (w.mask_bit hl x).mp hx with e | e
  · exact ⟨w.snd, key _ (Sw.mask_snd w hl) (by omega), Sw.mask_snd w hl, by omega, Sw.snd_lt ho⟩
  · exact ⟨w.fst, key _ (Sw.mask_fst w hl) (by omega), Sw.mask_fst w hl, by omega, Sw.fst_lt ho⟩
/-- a new bar is found -/
theorem BfsS.found {sws : List Sw} {st s g seen : Nat} {L : List Ent} {at_ k c : Nat} {w : Sw} (B : BfsS sws st s g seen L at_) (h : at_ < L.length) (hk : sws[k]? = some w) (hb : st.testBit k = true) (hl : w.long = true) (hx : w.mask.testBit L[at_].bar = true) (hc : w.mask.testBit c = true)
    (hne : c ≠ L[at_].bar) (hs : seen.testBit c = false) : Dst sws st s c (L[at_].dep + 1) ∧ Edge sws st k L[at_].bar c ∧ (g.testBit c = false → BfsS sws st s g (seen ||| 2 ^ c) (L ++ [⟨c, L[at_].dep + 1, some (k, L[at_].bar)⟩]) at_) := by
  have he : Edge sws st k L[at_].bar c := ⟨w, hk, hb, hl, hx, hc, Ne.symm hne⟩
  have hd : Dst sws st s c (L[at_].dep + 1) := by
    obtain ⟨a, ks, h1, h2, h3⟩ := (B.dst _ (List.getElem_mem h)).1
    refine ⟨⟨a, k :: ks, h1, .cons h2 he, by rw [List.length_cons, h3]⟩, fun a ks h1 h2 => ?_⟩
    refine Nat.lt_of_not_le fun z => ?_
    have := B.near h h1 h2 z
    rw [hs] at this; cases this
  refine ⟨hd, he, fun hg => ?_⟩
  have up : Le seen (seen ||| 2 ^ c) := Le.orL _ _
  refine ⟨fun b => ?_, ?_, fun e hm => ?_, fun e hm hp => ?_, fun e hm k' q hp => ?_, fun i j hi hj hij => ?_, fun h' e hm => ?_, fun i hi hlt p hp hpb => ?_, ?_, B.le.trans up⟩
  · rw [Nat.testBit_or, Bool.or_eq_true, B.bits, Nat.testBit_two_pow, decide_eq_true_eq]
    constructor
    · rintro (⟨e, h1, h2⟩ | h)
      · exact ⟨e, List.mem_append_left _ h1, h2⟩
      · exact ⟨_, List.mem_append_right _ (List.mem_singleton.mpr rfl), h⟩
    · rintro ⟨e, h1, h2⟩
      rcases List.mem_append.mp h1 with h1 | h1
      · exact .inl ⟨e, h1, h2⟩
      · rw [List.mem_singleton.mp h1] at h2; exact .inr h2
  · rw [List.map_append, List.nodup_append]
    refine ⟨B.nd, by simp, fun a ha b hb2 z => ?_⟩
    have hb2 : b = c := by simpa using hb2
    obtain ⟨e, h1, h2⟩ := List.mem_map.mp ha
    have := (B.bits a).mpr ⟨e, h1, h2⟩
    rw [z, hb2, hs] at this; cases this
  · rcases List.mem_append.mp hm with hm | hm
    · exact B.dst e hm
    · rw [List.mem_singleton.mp hm]; exact hd
  · rcases List.mem_append.mp hm with hm | hm
    · exact B.root e hm hp
    · rw [List.mem_singleton.mp hm] at hp; cases hp
  · rcases List.mem_append.mp hm with hm | hm
    · obtain ⟨h1, e', h2, h3⟩ := B.par e hm k' q hp
      exact ⟨h1, e', List.mem_append_left _ h2, h3⟩
    · rw [List.mem_singleton.mp hm] at hp ⊢
      cases hp
      exact ⟨he, L[at_], List.mem_append_left _ (List.getElem_mem h), rfl, rfl⟩
  · rw [List.length_append, List.length_singleton] at hi hj
    by_cases hjl : j < L.length
    · have hil : i < L.length := by omega
      rw [List.getElem_append_left hil, List.getElem_append_left hjl]
      exact B.srt i j hil hjl hij
    · have ej : j = L.length := by omega
      subst ej
      rw [List.getElem_append_right (Nat.le_refl _)]
      by_cases hil : i < L.length
      · rw [List.getElem_append_left hil]
        have := B.top h _ (List.getElem_mem hil)
        simpa using this
      · have ei : i = L.length := by omega
        subst ei
        rw [List.getElem_append_right (Nat.le_refl _)]
        exact Nat.le_refl _
  · rw [List.getElem_append_left h]
    rcases List.mem_append.mp hm with hm | hm
    · exact B.top h e hm
    · rw [List.mem_singleton.mp hm]; exact Nat.le_refl _
  · have hil : i < L.length := by omega
    rw [List.getElem_append_left hil] at hpb
    exact (B.done i hil hlt p hp hpb).trans up
  · refine Classical.byContradiction fun z => ?_
    obtain ⟨i, h1, h2⟩ := and_ne.mp z
    rw [Nat.testBit_or, Bool.or_eq_true, Nat.testBit_two_pow, decide_eq_true_eq] at h2
    rcases h2 with h2 | h2
    · exact absurd B.out (and_ne.mpr ⟨i, h1, h2⟩)
    · subst h2; rw [hg] at h1; cases h1
end RL

/-! RM6: what a plan's search keeps. -/
namespace RL
open PySem L2
def swAt (sws : List Sw) (i : Nat) : Sw := sws[i]?.getD (.feed 0)
theorem swAt_get {sws : List Sw} {i : Nat} (h : i < sws.length) : swAt sws i = sws[i] := by
  unfold swAt; rw [List.getElem?_eq_getElem h]; rfl
/-- what a deed makes of a standing, if it may be done -/
noncomputable def dd (sws : List Sw) (st k : Nat) : Option Nat := deedN sws st k (swAt sws k)
theorem dd_lt {sws : List Sw} {st k t : Nat} (h : dd sws st k = some t) (hk : k < sws.length) (hst : st < 2 ^ sws.length) : t < 2 ^ sws.length := by
  unfold dd deedN at h
  split at h
  · cases h
  · split at h
    · cases h
    · cases h
      exact Nat.xor_lt_two_pow hst (Nat.pow_lt_pow_right (by omega) hk)
theorem dd_xor {sws : List Sw} {st k t : Nat} (h : dd sws st k = some t) : t = st ^^^ 2 ^ k := by
  unfold dd deedN at h
  split at h
  · cases h
  · split at h
    · cases h
    · cases h; rfl
theorem v_isnN_optI (o : Option Nat) : D.isnN (optI o) .non = .ok (.bl o.isSome) := by cases o <;> rfl
theorem v_isN_optI (o : Option Nat) : D.isN (optI o) .non = .ok (.bl o.isNone) := by cases o <;> rfl
@[simp] theorem v_uc {γ α : Type} (m : D → γ → α) (d : D) (c : γ) : uc m (d, c) = m d c := id rfl
@[simp] theorem v_noE {α : Type} (a : α) : noE (Res.ok a) = .ok a := id rfl
@[simp] theorem v_c1 {γ α : Type} (m : D → γ → Res α) (a : D) (c : γ) : c1 m [a] c = m a c := id rfl
@[simp] theorem v_c2 {γ α : Type} (m : D → D → γ → Res α) (a b : D) (c : γ) : c2 m [a, b] c = m a b c := id rfl
@[simp] theorem v_c3 {γ α : Type} (m : D → D → D → γ → Res α) (a b d : D) (c : γ) : c3 m [a, b, d] c = m a b d c := id rfl
@[simp] theorem v_toldC_rt {γ : Type} (d : D) (c : γ) : toldC (.ok (.rt d c)) = .ok (d, c) := id rfl
/-- ints of a list of naturals -/
def nL (l : List Nat) : List D := l.map fun (k : Nat) => D.int (k : Int)
theorem nL_len (l : List Nat) : (nL l).length = l.length := List.length_map _
theorem nL_get {l : List Nat} {i : Nat} (h : i < (nL l).length) : (nL l)[i] = .int ((l[i]'(by rw [nL_len] at h; exact h) : Nat) : Int) := List.getElem_map _
theorem srt_nat (l : List Nat) : ∃ s : List Nat, s.Perm l ∧ s.Pairwise (· ≤ ·) ∧ (D.srt (l.map fun (k : Nat) => (k : Int))).map D.int = nL s := by
  refine ⟨l.mergeSort (fun a b => decide (a ≤ b)), List.mergeSort_perm _ _, ?_, ?_⟩
  · have h := List.pairwise_mergeSort (le := fun a b : Nat => decide (a ≤ b)) (fun a b c h1 h2 => by
      have h1 := of_decide_eq_true h1
      have h2 := of_decide_eq_true h2
      exact decide_eq_true (by omega)) (fun a b => by
      by_cases z : a ≤ b
      · simp [z]
      · have : b ≤ a := by omega
        simp [this]) l
    exact h.imp fun h => of_decide_eq_true h
  · have hp : ((l.mergeSort (fun a b => decide (a ≤ b))).map fun (k : Nat) => (k : Int)).Perm (l.map fun (k : Nat) => (k : Int)) := (List.mergeSort_perm _ _).map _
    have hs : ((l.mergeSort (fun a b => decide (a ≤ b))).map fun (k : Nat) => (k : Int)).Pairwise (· ≤ ·) := by
      rw [List.pairwise_map]
      have h := List.pairwise_mergeSort (le := fun a b : Nat => decide (a ≤ b)) (fun a b c h1 h2 => by
        have h1 := of_decide_eq_true h1
        have h2 := of_decide_eq_true h2
        exact decide_eq_true (by omega)) (fun a b => by
        by_cases z : a ≤ b
        · simp [z]
        · have : b ≤ a := by omega
          simp [this]) l
      exact h.imp fun h => by
        have := of_decide_eq_true h
        omega
    rw [← srt_eq hp hs, List.map_map]; rfl
theorem v_sortL (l : List Nat) : ∃ s : List Nat, s.Perm l ∧ s.Pairwise (· ≤ ·) ∧ D.sortedD (.lst (nL l)) = .ok (.lst (nL s)) := by
  obtain ⟨s, h1, h2, h3⟩ := srt_nat l
  refine ⟨s, h1, h2, ?_⟩
  have e : nL l = (l.map fun (k : Nat) => (k : Int)).map D.int := by unfold nL; rw [List.map_map]; rfl
  unfold D.sortedD
  simp only [e, allInt_map, h3]
/-- a standing that was come to -/
structure Nd where
  st : Nat
  dep : Nat
  par : Option (Nat × Nat)
def Nd.val (e : Nd) : D := match e.par with
  | none => .non
  | some p => .tup [.int (p.1 : Nat), .int (p.2 : Nat)]
def Nd.kv (e : Nd) : Key × D := (.inl (e.st : Int), e.val)
theorem look_nd : ∀ {L : List Nd} {t : Nat}, (L.map Nd.st).Nodup → ∀ e ∈ L, e.st = t → D.look (L.map Nd.kv) (Sum.inl (t : Int) : Key) = some e.val
  | [], _, _, _, h, _ => nomatch h
  | x :: L, t, nd, e, he, het => by
    rw [List.map_cons, List.nodup_cons] at nd
    rw [List.map_cons]
    unfold D.look
    rcases List.mem_cons.mp he with rfl | he
    · subst het
      exact if_pos rfl
    · rw [if_neg (fun z => by
        have z : (x.st : Int) = (t : Int) := Sum.inl.inj z
        have : x.st = e.st := by omega
        exact nd.1 (this ▸ List.mem_map.mpr ⟨e, he, rfl⟩))]
      exact look_nd nd.2 e he het
theorem look_nd_none : ∀ {L : List Nd} {t : Nat}, t ∉ L.map Nd.st → D.look (L.map Nd.kv) (Sum.inl (t : Int) : Key) = none
  | [], _, _ => rfl
  | x :: L, t, h => by
    rw [List.map_cons] at h ⊢
    unfold D.look
    rw [if_neg (fun z => h (by
      have z : (x.st : Int) = (t : Int) := Sum.inl.inj z
      have : t = x.st := by omega
      rw [this]; exact List.mem_cons_self))]
    exact look_nd_none fun z => h (List.mem_cons_of_mem _ z)
theorem look_nd_some {L : List Nd} {t : Nat} (nd : (L.map Nd.st).Nodup) : (D.look (L.map Nd.kv) (Sum.inl (t : Int) : Key)).isSome = decide (t ∈ L.map Nd.st) := by
  by_cases h : t ∈ L.map Nd.st
  · obtain ⟨e, he, het⟩ := List.mem_map.mp h
    rw [look_nd nd e he het, decide_eq_true h]; rfl
  · rw [look_nd_none h, decide_eq_false h]; rfl
theorem v_ninD {L : List Nd} {t : Nat} (nd : (L.map Nd.st).Nodup) : D.nin (.int (t : Nat)) (.dic (L.map Nd.kv)) = .ok (.bl (!decide (t ∈ L.map Nd.st))) := by
  rw [← look_nd_some nd]; rfl
theorem v_innD {L : List Nd} {t : Nat} (nd : (L.map Nd.st).Nodup) : D.inn (.int (t : Nat)) (.dic (L.map Nd.kv)) = .ok (.bl (decide (t ∈ L.map Nd.st))) := by
  rw [← look_nd_some nd]; rfl
theorem setDic_new {L : List Nd} {t : Nat} {d : D} (h : t ∉ L.map Nd.st) (hl : L.length < 16777216) : setDic (L.map Nd.kv) (.int (t : Nat)) d = .ok (L.map Nd.kv ++ [(.inl (t : Int), d)]) := by
  have e0 : setDic (L.map Nd.kv) (.int (t : Nat)) d = if (L.map Nd.kv).length < sizeLine then .ok (putKD (L.map Nd.kv) (.inl (t : Int)) d) else .stuck := rfl
  rw [e0, if_pos (by rw [List.length_map, sizeLine_val]; exact hl)]
  unfold putKD
  rw [if_neg]
  intro z
  obtain ⟨kv, hkv, hz⟩ := List.any_eq_true.mp z
  obtain ⟨e, he, rfl⟩ := List.mem_map.mp hkv
  have hz : (Sum.inl (e.st : Int) : Key) = .inl (t : Int) := of_decide_eq_true hz
  have hz : (e.st : Int) = (t : Int) := Sum.inl.inj hz
  have : t = e.st := by omega
  exact h (this ▸ List.mem_map.mpr ⟨e, he, rfl⟩)
theorem keyInt_nd : ∀ L : List Nd, D.keyInt (L.map Nd.kv) = some ((L.map Nd.st).map fun (k : Nat) => (k : Int))
  | [] => rfl
  | e :: L => by
    rw [List.map_cons]
    unfold D.keyInt Nd.kv
    have := keyInt_nd L
    unfold Nd.kv at this
    simp only [this]; rfl
theorem v_sortD (L : List Nd) : ∃ s : List Nat, s.Perm (L.map Nd.st) ∧ s.Pairwise (· ≤ ·) ∧ D.sortedD (.dic (L.map Nd.kv)) = .ok (.lst (nL s)) := by
  obtain ⟨s, h1, h2, h3⟩ := srt_nat (L.map Nd.st)
  refine ⟨s, h1, h2, ?_⟩
  unfold D.sortedD
  simp only [keyInt_nd, h3]
theorem sorted_strict {l : List Nat} (h : l.Pairwise (· ≤ ·)) (nd : l.Nodup) : l.Pairwise (· < ·) :=
  (h.and nd).imp fun ⟨a, b⟩ => by omega
theorem ctloopN {α τ γ : Type} {f : α → τ → Res (Fl τ τ γ)} {k : τ → Res (Fl γ Empty γ)} {P : Res (D × γ) → Prop} (I : Nat → τ → Prop) {ds : List α} {s : τ} (h0 : I 0 s)
    (hs : ∀ i (h : i < ds.length) s, I i s → Nxt (I (i + 1)) (f ds[i] s)) (hk : ∀ t, I ds.length t → P (toldC (k t))) : P (toldC (andThen (loop ds s f) k)) := by
  obtain ⟨t, h1, h2⟩ := loop_ix (β := Empty) I ds s h0 hs
  rw [h1]; exact hk t h2
end RL

/-! RM7: layers. -/
namespace RL
open PySem L2
theorem ok_nL (l : List Nat) : okE 1 (.lst (nL l)) = true := by
  show (nL l).all (okE 0) = true
  rw [List.all_eq_true]
  intro d hd
  obtain ⟨k, _, rfl⟩ := List.mem_map.mp hd
  rfl
theorem nL_inj {l m : List Nat} (h : nL l = nL m) : l = m := by
  induction l generalizing m with
  | nil => cases m with
    | nil => rfl
    | cons b m => cases h
  | cons a l ih =>
    cases m with
    | nil => cases h
    | cons b m =>
      have h1 : D.int (a : Nat) = D.int (b : Nat) := (List.cons.inj h).1
      have h2 := ih (List.cons.inj h).2
      have : a = b := by
        have := D.int.inj h1
        omega
      rw [this, h2]
theorem v_eq_nL (l m : List Nat) : D.eq (.lst (nL l)) (.lst (nL m)) = .ok (.bl (decide (l = m))) := by
  rw [v_eq_ok (ok_nL l) (ok_nL m) (by decide) (by decide)]
  congr 2
  exact decide_eq_decide.mpr ⟨fun h => nL_inj (D.lst.inj h), fun h => by rw [h]⟩
theorem v_ne_nL (l m : List Nat) : D.ne (.lst (nL l)) (.lst (nL m)) = .ok (.bl (!decide (l = m))) := by
  rw [v_ne_ok (ok_nL l) (ok_nL m) (by decide) (by decide)]
  congr 3
  exact decide_eq_decide.mpr ⟨fun h => nL_inj (D.lst.inj h), fun h => by rw [h]⟩
theorem v_ne_nL0 (l : List Nat) : D.ne (.lst (nL l)) (.lst []) = .ok (.bl (!decide (l = []))) := v_ne_nL l []
/-- a layer's working: what is new -/
structure NewS (sws : List Sw) (lay free : List Nat) (d : Nat) (came new : List Nd) : Prop where
  nd : ((came ++ new).map Nd.st).Nodup
  lt : ∀ e ∈ came ++ new, e.st < 2 ^ sws.length
  how : ∀ e ∈ new, e.dep = d ∧ ∃ p ∈ lay, ∃ k ∈ free, e.par = some (p, k) ∧ dd sws p k = some e.st
theorem newS_len {sws : List Sw} {lay free : List Nat} {d : Nat} {came new : List Nd} (N : NewS sws lay free d came new) (h : sws.length ≤ 12) : (came ++ new).length ≤ 4096 := by
  have h1 := nodup_lt (2 ^ sws.length) _ N.nd fun x hx => by
    obtain ⟨e, he, rfl⟩ := List.mem_map.mp hx
    exact N.lt e he
  rw [List.length_map] at h1
  have h2 : 2 ^ sws.length ≤ 2 ^ 12 := Nat.pow_le_pow_right (by omega) h
  have h3 : (2 : Nat) ^ 12 = 4096 := by decide
  omega
/-- the layers from a standing -/
structure LayS (sws : List Sw) (free : List Nat) (st0 : Nat) (LL : List (List Nat)) (came : List Nd) : Prop where
  first : LL[0]? = some [st0]
  nd : (came.map Nd.st).Nodup
  lt : ∀ e ∈ came, e.st < 2 ^ sws.length
  mem : ∀ i (h : i < LL.length) t, t ∈ LL[i] ↔ ∃ e ∈ came, e.st = t ∧ e.dep = i
  dep : ∀ e ∈ came, e.dep < LL.length
  par : ∀ e ∈ came, (e.dep = 0 → e.par = none) ∧ ∀ d, e.dep = d + 1 → ∃ p k, e.par = some (p, k) ∧ k ∈ free ∧ dd sws p k = some e.st ∧ ∃ e' ∈ came, e'.st = p ∧ e'.dep = d
  shut : ∀ i (h : i + 1 < LL.length), ∀ p ∈ LL[i], ∀ k ∈ free, ∀ t, dd sws p k = some t → ∃ e ∈ came, e.st = t ∧ e.dep ≤ i + 1
  srt : ∀ r ∈ LL, r.Pairwise (· < ·)
  ne : ∀ i (h : i + 1 < LL.length), LL[i] ≠ []
theorem LayS.init {sws : List Sw} {free : List Nat} {st0 : Nat} (h : st0 < 2 ^ sws.length) : LayS sws free st0 [[st0]] [⟨st0, 0, none⟩] := by
  refine ⟨rfl, by simp, fun e he => ?_, fun i hi t => ?_, fun e he => ?_, fun e he => ?_, fun i hi => ?_, fun r hr => ?_, fun i hi => ?_⟩
  · rw [List.mem_singleton.mp he]; exact h
  · have : i = 0 := by simp at hi; omega
    subst this
    constructor
    · intro ht
      exact ⟨_, List.mem_singleton.mpr rfl, (List.mem_singleton.mp ht).symm, rfl⟩
    · rintro ⟨e, he, h1, _⟩
      rw [List.mem_singleton.mp he] at h1
      exact List.mem_singleton.mpr h1.symm
  · rw [List.mem_singleton.mp he]; exact Nat.zero_lt_one
  · rw [List.mem_singleton.mp he]
    exact ⟨fun _ => rfl, fun d hd => by cases hd⟩
  · simp at hi
  · rw [List.mem_singleton.mp hr]; simp
  · simp at hi
theorem LayS.len {sws : List Sw} {free : List Nat} {st0 : Nat} {LL : List (List Nat)} {came : List Nd} (L : LayS sws free st0 LL came) (h : sws.length ≤ 12) : came.length ≤ 4096 := by
  have h1 := nodup_lt (2 ^ sws.length) _ L.nd fun x hx => by
    obtain ⟨e, he, rfl⟩ := List.mem_map.mp hx
    exact L.lt e he
  rw [List.length_map] at h1
  have h2 : 2 ^ sws.length ≤ 2 ^ 12 := Nat.pow_le_pow_right (by omega) h
  have h3 : (2 : Nat) ^ 12 = 4096 := by decide
  omega
theorem LayS.row_lt {sws : List Sw} {free : List Nat} {st0 : Nat} {LL : List (List Nat)} {came : List Nd} (L : LayS sws free st0 LL came) {i : Nat} (h : i < LL.length) : ∀ t ∈ LL[i], t < 2 ^ sws.length := fun t ht => by
  obtain ⟨e, he, rfl, _⟩ := (L.mem i h t).mp ht
  exact L.lt e he
theorem LayS.new0 {sws : List Sw} {free : List Nat} {st0 : Nat} {LL : List (List Nat)} {came : List Nd} (L : LayS sws free st0 LL came) (lay : List Nat) (d : Nat) : NewS sws lay free d came [] := by
  refine ⟨by rw [List.append_nil]; exact L.nd, fun e he => L.lt e (by rwa [List.append_nil] at he), fun e he => by cases he⟩
theorem LayS.step {sws : List Sw} {free : List Nat} {st0 : Nat} {rows : List (List Nat)} {lay : List Nat} {came new : List Nd} {s : List Nat} (L : LayS sws free st0 (rows ++ [lay]) came) (hne : lay ≠ [])
    (N : NewS sws lay free (rows.length + 1) came new) (hs : s.Perm (new.map Nd.st)) (hs2 : s.Pairwise (· ≤ ·)) (hall : ∀ p ∈ lay, ∀ k ∈ free, ∀ t, dd sws p k = some t → t ∈ (came ++ new).map Nd.st) : LayS sws free st0 ((rows ++ [lay]) ++ [s]) (came ++ new) := by
  have hlen : (rows ++ [lay]).length = rows.length + 1 := by simp
  have hlay : (rows ++ [lay])[rows.length]? = some lay := by simp
  refine ⟨?_, N.nd, N.lt, fun i hi t => ?_, fun e he => ?_, fun e he => ?_, fun i hi p hp k hk t ht => ?_, fun r hr => ?_, fun i hi => ?_⟩
  · rw [List.getElem?_append_left (by omega)]; exact L.first
  · rw [List.length_append, List.length_singleton] at hi
    by_cases hil : i < (rows ++ [lay]).length
    · rw [List.getElem_append_left hil, L.mem i hil t]
      constructor
      · rintro ⟨e, he, h1, h2⟩; exact ⟨e, List.mem_append_left _ he, h1, h2⟩
      · rintro ⟨e, he, h1, h2⟩
        rcases List.mem_append.mp he with he | he
        · exact ⟨e, he, h1, h2⟩
        · have := (N.how e he).1
          omega
    · have hi2 : i = (rows ++ [lay]).length := by omega
      subst hi2
      rw [List.getElem_append_right (Nat.le_refl _)]
      simp only [Nat.sub_self, List.getElem_cons_zero]
      rw [hs.mem_iff, List.mem_map]
      constructor
      · rintro ⟨e, he, h1⟩
        exact ⟨e, List.mem_append_right _ he, h1, by rw [(N.how e he).1, hlen]⟩
      · rintro ⟨e, he, h1, h2⟩
        rcases List.mem_append.mp he with he | he
        · have := L.dep e he
          omega
        · exact ⟨e, he, h1⟩
  · rw [List.length_append, List.length_singleton]
    rcases List.mem_append.mp he with he | he
    · have := L.dep e he
      omega
    · rw [(N.how e he).1, hlen]; omega
  · rcases List.mem_append.mp he with he | he
    · obtain ⟨h1, h2⟩ := L.par e he
      refine ⟨h1, fun d hd => ?_⟩
      obtain ⟨p, k, a1, a2, a3, e', a4, a5⟩ := h2 d hd
      exact ⟨p, k, a1, a2, a3, e', List.mem_append_left _ a4, a5⟩
    · obtain ⟨h1, p, h2, k, h3, h4, h5⟩ := N.how e he
      refine ⟨fun z => (by rw [h1] at z; cases z), fun d hd => ?_⟩
      have hd2 : d = rows.length := by omega
      subst hd2
      have hlt : rows.length < (rows ++ [lay]).length := by omega
      have e1 : (rows ++ [lay])[rows.length] = lay := by
        rw [List.getElem?_eq_getElem hlt] at hlay
        exact Option.some.inj hlay
      obtain ⟨e', g1, g2, g3⟩ := (L.mem _ hlt p).mp (by rw [e1]; exact h2)
      exact ⟨p, k, h4, h3, h5, e', List.mem_append_left _ g1, g2, g3⟩
  · rw [List.length_append, List.length_singleton] at hi
    have hil : i < (rows ++ [lay]).length := by omega
    rw [List.getElem_append_left hil] at hp
    by_cases hi2 : i + 1 < (rows ++ [lay]).length
    · obtain ⟨e, g1, g2, g3⟩ := L.shut i hi2 p hp k hk t ht
      exact ⟨e, List.mem_append_left _ g1, g2, g3⟩
    · have hi3 : i = rows.length := by omega
      subst hi3
      have e1 : (rows ++ [lay])[rows.length] = lay := by
        rw [List.getElem?_eq_getElem hil] at hlay
        exact Option.some.inj hlay
      rw [e1] at hp
      obtain ⟨e, g1, g2⟩ := List.mem_map.mp (hall p hp k hk t ht)
      refine ⟨e, g1, g2, ?_⟩
      rcases List.mem_append.mp g1 with g1 | g1
      · have := L.dep e g1
        omega
      · rw [(N.how e g1).1]; exact Nat.le_refl _
  · rcases List.mem_append.mp hr with hr | hr
    · exact L.srt r hr
    · rw [List.mem_singleton.mp hr]
      refine sorted_strict hs2 ?_
      rw [hs.nodup_iff]
      have := N.nd
      rw [List.map_append, List.nodup_append] at this
      exact this.2.1
  · rw [List.length_append, List.length_singleton] at hi
    have hil : i < (rows ++ [lay]).length := by omega
    rw [List.getElem_append_left hil]
    by_cases hi2 : i + 1 < (rows ++ [lay]).length
    · exact L.ne i hi2
    · have hi3 : i = rows.length := by omega
      subst hi3
      have e1 : (rows ++ [lay])[rows.length] = lay := by
        rw [List.getElem?_eq_getElem hil] at hlay
        exact Option.some.inj hlay
      rw [e1]; exact hne
/-! ### the free ones, of a number -/
theorem sum_mask : ∀ (l : List Nat), l.Pairwise (· > ·) → (∀ i, (l.map fun k => 2 ^ k).sum.testBit i = decide (i ∈ l)) ∧ ∀ m, (∀ k ∈ l, k < m) → (l.map fun k => 2 ^ k).sum < 2 ^ m
  | [], _ => ⟨fun i => by simp, fun m _ => by simpa using Nat.two_pow_pos m⟩
  | k :: l, h => by
    rw [List.pairwise_cons] at h
    obtain ⟨h1, h2⟩ := sum_mask l h.2
    have hlt := h2 k h.1
    refine ⟨fun i => ?_, fun m hm => ?_⟩
    · rw [List.map_cons, List.sum_cons]
      have e := Nat.two_pow_add_eq_or_of_lt hlt 1
      rw [Nat.mul_one] at e
      rw [e, Nat.testBit_or, h1, Nat.testBit_two_pow]
      by_cases z : k = i
      · subst z; simp
      · have z2 : ¬ i = k := fun y => z y.symm
        simp [z, z2]
    · rw [List.map_cons, List.sum_cons]
      have hk := hm k List.mem_cons_self
      have : 2 ^ (k + 1) ≤ 2 ^ m := Nat.pow_le_pow_right (by omega) hk
      rw [Nat.pow_succ] at this
      omega
theorem sum_mask_up {l : List Nat} (h : l.Pairwise (· < ·)) : (∀ i, (l.map fun k => 2 ^ k).sum.testBit i = decide (i ∈ l)) ∧ ∀ m, (∀ k ∈ l, k < m) → (l.map fun k => 2 ^ k).sum < 2 ^ m := by
  have h2 := sum_mask l.reverse (by rw [List.pairwise_reverse]; exact h)
  have e : (l.reverse.map fun k => 2 ^ k).sum = (l.map fun k => 2 ^ k).sum := by
    rw [List.map_reverse]
    exact (List.reverse_perm _).sum_nat
  rw [e] at h2
  refine ⟨fun i => by rw [h2.1 i]; exact decide_eq_decide.mpr List.mem_reverse, fun m hm => h2.2 m fun k hk => hm k (List.mem_reverse.mp hk)⟩
/-- the fixed ones of the free -/
theorem fixed_bits {l : List Nat} {m : Nat} (h : l.Pairwise (· < ·)) (hm : ∀ k ∈ l, k < m) : ∃ f : Nat, ((2 ^ m : Nat) : Int) - 1 - (((l.map fun k => 2 ^ k).sum : Nat) : Int) = (f : Int) ∧ ∀ i, (i ∈ (List.range m).filter fun i => !f.testBit i) ↔ i ∈ l := by
  obtain ⟨h1, h2⟩ := sum_mask_up h
  have hlt := h2 m hm
  generalize (l.map fun k => 2 ^ k).sum = x at h1 hlt
  refine ⟨2 ^ m - (x + 1), by omega, fun i => ?_⟩
  rw [List.mem_filter, List.mem_range, Nat.testBit_two_pow_sub_succ hlt, h1]
  constructor
  · rintro ⟨g1, g2⟩
    have g2 : (!(decide (i < m) && !decide (i ∈ l))) = true := g2
    rw [decide_eq_true g1] at g2
    simpa using g2
  · intro g
    refine ⟨hm i g, ?_⟩
    show (!(decide (i < m) && !decide (i ∈ l))) = true
    rw [decide_eq_true g]; simp
/-! ### a set kept as a dict of naturals to True -/
def tD (S : List Nat) : List (Key × D) := S.map fun (k : Nat) => (Sum.inl (k : Int), D.bl true)
theorem look_tD : ∀ {S : List Nat} {t : Nat}, (D.look (tD S) (Sum.inl (t : Int) : Key)).isSome = decide (t ∈ S)
  | [], t => by simp [tD, D.look]
  | a :: S, t => by
    unfold tD
    rw [List.map_cons]
    unfold D.look
    by_cases z : a = t
    · subst z
      rw [if_pos rfl]; simp
    · rw [if_neg (fun y => z (by
        have y : (a : Int) = (t : Int) := Sum.inl.inj y
        omega))]
      have := look_tD (S := S) (t := t)
      unfold tD at this
      rw [this]
      have z2 : ¬ t = a := fun y => z y.symm
      simp [z2]
theorem v_ninT {S : List Nat} {t : Nat} : D.nin (.int (t : Nat)) (.dic (tD S)) = .ok (.bl (!decide (t ∈ S))) := by
  rw [← look_tD]; rfl
theorem v_innT {S : List Nat} {t : Nat} : D.inn (.int (t : Nat)) (.dic (tD S)) = .ok (.bl (decide (t ∈ S))) := by
  rw [← look_tD]; rfl
theorem setDic_t {S : List Nat} {t : Nat} (hl : S.length < 16777216) : setDic (tD S) (.int (t : Nat)) (.bl true) = .ok (tD (if t ∈ S then S else S ++ [t])) := by
  have e0 : setDic (tD S) (.int (t : Nat)) (.bl true) = if (tD S).length < sizeLine then .ok (putKD (tD S) (.inl (t : Int)) (.bl true)) else .stuck := rfl
  rw [e0, if_pos (by unfold tD; rw [List.length_map, sizeLine_val]; exact hl)]
  unfold putKD
  have hany : ((tD S).any fun kv => decide (kv.1 = (Sum.inl (t : Int) : Key))) = decide (t ∈ S) := by
    unfold tD
    rw [List.any_map]
    induction S with
    | nil => rfl
    | cons a S ih =>
      rw [List.any_cons, ih (by rw [List.length_cons] at hl; omega) rfl]
      by_cases z : a = t
      · subst z; simp [Function.comp]
      · have z2 : ¬ t = a := fun y => z y.symm
        have z3 : ¬ ((Sum.inl (a : Int) : Key) = .inl (t : Int)) := fun y => z (by
          have y : (a : Int) = (t : Int) := Sum.inl.inj y
          omega)
        simp [Function.comp, z3, z2]
  rw [hany]
  by_cases z : t ∈ S
  · rw [if_pos (decide_eq_true z), if_pos z]
    congr 1
    unfold tD
    rw [List.map_map]
    apply List.map_congr_left
    intro a _
    show (if (Sum.inl (a : Int) : Key) = .inl (t : Int) then _ else _) = _
    split <;> rfl
  · rw [if_neg (by rw [decide_eq_false z]; decide), if_neg z]
    unfold tD
    rw [List.map_append]; rfl
theorem keyInt_tD : ∀ S : List Nat, D.keyInt (tD S) = some (S.map fun (k : Nat) => (k : Int))
  | [] => rfl
  | a :: S => by
    unfold tD
    rw [List.map_cons]
    unfold D.keyInt
    have := keyInt_tD S
    unfold tD at this
    simp only [this]; rfl
theorem v_sortT (S : List Nat) : ∃ s : List Nat, s.Perm S ∧ s.Pairwise (· ≤ ·) ∧ D.sortedD (.dic (tD S)) = .ok (.lst (nL s)) := by
  obtain ⟨s, h1, h2, h3⟩ := srt_nat S
  refine ⟨s, h1, h2, ?_⟩
  unfold D.sortedD
  simp only [keyInt_tD, h3]
theorem v_eq_optI (o : Option Nat) (t : Nat) : D.eq (optI o) (.int (t : Nat)) = .ok (.bl (decide (o = some t))) := by
  cases o with
  | none =>
    rw [v_eq_ok (n := 0) (m := 0) rfl rfl (by decide) (by decide)]
    congr 2
    exact decide_eq_decide.mpr ⟨fun h => (by cases h), fun h => (by cases h)⟩
  | some b =>
    have e : D.eq (optI (some b)) (.int (t : Nat)) = .ok (.bl (decide ((b : Int) = (t : Int)))) := rfl
    rw [e]
    congr 2
    exact decide_eq_decide.mpr ⟨fun h => by congr 1; omega, fun h => by cases h; rfl⟩
theorem v_innL (i : Nat) (l : List Nat) (h : (D.inB (.int (i : Nat)) (.lst (nL l))) = .ok (decide (i ∈ l))) : D.inn (.int (i : Nat)) (.lst (nL l)) = .ok (.bl (decide (i ∈ l))) := by
  show (D.inB _ _).bind _ = _
  rw [h]; rfl
theorem v_inBL (i : Nat) (l : List Nat) : D.inB (.int (i : Nat)) (.lst (nL l)) = .ok (decide (i ∈ l)) := by
  have e : D.inB (.int (i : Nat)) (.lst (nL l)) = if (D.int (i : Nat)).flat = true ∧ (nL l).all D.flat = true then .ok ((nL l).any fun y => eqV y.toV (D.int (i : Nat)).toV) else .stuck := rfl
  have h1 : (nL l).all D.flat = true := by
    rw [List.all_eq_true]
    intro d hd
    obtain ⟨b, _, rfl⟩ := List.mem_map.mp hd
    rfl
  rw [e, if_pos ⟨rfl, h1⟩]
  congr 1
  clear h1 e
  induction l with
  | nil => rfl
  | cons a l ih =>
    show ((eqV (D.int (a : Nat)).toV (D.int (i : Nat)).toV) || ((nL l).any fun y => eqV y.toV (D.int (i : Nat)).toV)) = _
    rw [ih]
    have e2 : eqV (D.int (a : Nat)).toV (D.int (i : Nat)).toV = ((a : Int) == (i : Int)) := rfl
    rw [e2]
    by_cases z : a = i
    · subst z; simp
    · have z2 : ¬ i = a := fun y => z y.symm
      have z3 : ¬ (a : Int) = (i : Int) := by omega
      simp [z2, z3]
theorem v_innN (i : Nat) (l : List Nat) : D.inn (.int (i : Nat)) (.lst (nL l)) = .ok (.bl (decide (i ∈ l))) := v_innL i l (v_inBL i l)
theorem v_ninN (i : Nat) (l : List Nat) : D.nin (.int (i : Nat)) (.lst (nL l)) = .ok (.bl (!decide (i ∈ l))) := by
  show (D.inB _ _).bind _ = _
  rw [v_inBL]; rfl
theorem ix_nL {l : List Nat} {i : Nat} (h : i < l.length) : D.ix (.lst (nL l)) (.int (i : Nat)) = .ok (.int (l[i] : Nat)) := by
  rw [v_ixL, atI_nat]
  unfold nL
  rw [List.getElem?_map, List.getElem?_eq_getElem h]; rfl
theorem ix_rows {rows : List (List Nat)} {i : Nat} (h : i < rows.length) : D.ix (.lst (rows.map fun r => .lst (nL r))) (.int (i : Nat)) = .ok (.lst (nL rows[i])) := by
  rw [v_ixL, atI_nat, List.getElem?_map, List.getElem?_eq_getElem h]; rfl
theorem LayS.uniq {sws : List Sw} {free : List Nat} {st0 : Nat} {LL : List (List Nat)} {came : List Nd} (L : LayS sws free st0 LL came) {i j t : Nat} (hi : i < LL.length) (hj : j < LL.length) (h1 : t ∈ LL[i]) (h2 : t ∈ LL[j]) : i = j := by
  obtain ⟨e, a1, a2, a3⟩ := (L.mem i hi t).mp h1
  obtain ⟨e', b1, b2, b3⟩ := (L.mem j hj t).mp h2
  have key : ∀ (l : List Nd), (l.map Nd.st).Nodup → ∀ e ∈ l, ∀ e' ∈ l, e.st = e'.st → e = e' := by
    intro l
    induction l with
    | nil => intro _ e he; cases he
    | cons x l ih =>
      intro nd e he e' he' hs
      rw [List.map_cons, List.nodup_cons] at nd
      rcases List.mem_cons.mp he with g1 | g1
      · rcases List.mem_cons.mp he' with g2 | g2
        · rw [g1, g2]
        · rw [g1] at hs
          exact absurd (List.mem_map.mpr ⟨e', g2, hs.symm⟩) nd.1
      · rcases List.mem_cons.mp he' with g2 | g2
        · rw [g2] at hs
          exact absurd (List.mem_map.mpr ⟨e, g1, hs⟩) nd.1
        · exact ih nd.2 e g1 e' g2 hs
  have := key came L.nd e a1 e' b1 (a2.trans b2.symm)
  rw [← a3, ← b3, this]
theorem at_assoc {τ τ' τ'' β κ : Type} (m : Res (Fl τ β κ)) (g : τ → Res (Fl τ' β κ)) (k : τ' → Res (Fl τ'' β κ)) : andThen (andThen m g) k = andThen m fun t => andThen (g t) k := by
  cases m with
  | ok fl => cases fl <;> rfl
  | exc c => rfl
  | stuck => rfl
end RL

/-! RM8: all layers; paths of deeds; numbers kept by numbers. -/
namespace RL
open PySem L2
structure RowS (sws : List Sw) (free : List Nat) (st0 : Nat) (rows : List (List Nat)) : Prop where
  pos : 0 < rows.length
  zero : rows[0]? = some [st0]
  ne : ∀ r ∈ rows, r ≠ []
  srt : ∀ r ∈ rows, r.Pairwise (· < ·)
  lt : ∀ r ∈ rows, ∀ t ∈ r, t < 2 ^ sws.length
  len : rows.length ≤ 4096
  rlen : ∀ r ∈ rows, r.length ≤ 4096
  uniq : ∀ i j (hi : i < rows.length) (hj : j < rows.length) t, t ∈ rows[i] → t ∈ rows[j] → i = j
  up : ∀ i (hi : i + 1 < rows.length) t, t ∈ rows[i + 1] → ∃ p ∈ rows[i], ∃ k ∈ free, dd sws p k = some t
  shut : ∀ i (hi : i < rows.length), ∀ p ∈ rows[i], ∀ k ∈ free, ∀ t, dd sws p k = some t → ∃ j, ∃ hj : j < rows.length, j ≤ i + 1 ∧ t ∈ rows[j]
theorem pow12 {n : Nat} (h : n ≤ 12) : 2 ^ n ≤ 4096 := by
  have h2 : 2 ^ n ≤ 2 ^ 12 := Nat.pow_le_pow_right (by omega) h
  have h3 : (2 : Nat) ^ 12 = 4096 := by decide
  omega
theorem LayS.rows {sws : List Sw} {free : List Nat} {st0 : Nat} {rows : List (List Nat)} {came : List Nd} (L : LayS sws free st0 (rows ++ [[]]) came) (h3 : sws.length ≤ 12) : RowS sws free st0 rows := by
  have hLL : (rows ++ [[]]).length = rows.length + 1 := by simp
  have hrow0 : 0 < rows.length := by
    refine Nat.pos_of_ne_zero fun z => ?_
    have : rows = [] := List.eq_nil_of_length_eq_zero z
    subst this
    have := L.first
    cases this
  have hget : ∀ i (hi : i < rows.length), (rows ++ [[]])[i]'(by omega) = rows[i] := fun i hi => List.getElem_append_left hi
  have hp12 := pow12 h3
  have hlt : ∀ r ∈ rows, ∀ t ∈ r, t < 2 ^ sws.length := fun r hr t ht => by
    obtain ⟨i, hi, rfl⟩ := List.getElem_of_mem hr
    exact L.row_lt (i := i) (by omega) t (by rw [hget i hi]; exact ht)
  have hne : ∀ r ∈ rows, r ≠ [] := fun r hr => by
    obtain ⟨i, hi, rfl⟩ := List.getElem_of_mem hr
    have := L.ne i (by omega)
    rwa [hget i hi] at this
  have huniq : ∀ i j (hi : i < rows.length) (hj : j < rows.length) t, t ∈ rows[i] → t ∈ rows[j] → i = j := fun i j hi hj t h1 h2 =>
    L.uniq (by omega) (by omega) (by rw [hget i hi]; exact h1) (by rw [hget j hj]; exact h2)
  refine ⟨hrow0, ?_, hne, fun r hr => L.srt r (List.mem_append_left _ hr), hlt, ?_, fun r hr => ?_, huniq, fun i hi t ht => ?_, fun i hi p hp k hk t ht => ?_⟩
  · have := L.first
    rwa [List.getElem?_append_left hrow0] at this
  · have hnd : (rows.map fun r => r.headD 0).Nodup := by
      rw [List.nodup_iff_pairwise_ne, List.pairwise_map, List.pairwise_iff_getElem]
      intro i j hi hj hij e
      have m1 : ∀ i (hi : i < rows.length), (rows[i].headD 0) ∈ rows[i] := fun i hi => by
        have := hne _ (List.getElem_mem hi)
        cases q : rows[i] with
        | nil => exact absurd q this
        | cons a l => exact List.mem_cons_self
      have := huniq i j hi hj _ (m1 i hi) (e ▸ m1 j hj)
      omega
    have h5 := nodup_lt (2 ^ sws.length) _ hnd fun x hx => by
      obtain ⟨r, hr, rfl⟩ := List.mem_map.mp hx
      have := hne _ hr
      cases q : r with
      | nil => exact absurd q this
      | cons a l => exact hlt r hr a (by rw [q]; exact List.mem_cons_self)
    rw [List.length_map] at h5
    omega
  · have h5 := nodup_lt (2 ^ sws.length) r ((L.srt _ (List.mem_append_left _ hr)).imp fun h => Nat.ne_of_lt h) fun t ht => hlt r hr t ht
    omega
  · obtain ⟨e, g1, g2, g3⟩ := (L.mem (i + 1) (by omega) t).mp (by rw [hget (i + 1) hi]; exact ht)
    obtain ⟨p, k, a1, a2, a3, e', a4, a5, a6⟩ := (L.par e g1).2 i g3
    refine ⟨p, ?_, k, a2, by rw [a3, g2]⟩
    have := (L.mem i (by omega) p).mpr ⟨e', a4, a5, a6⟩
    rwa [hget i (by omega)] at this
  · obtain ⟨e, g1, g2, g3⟩ := L.shut i (by omega) p (by rw [hget i hi]; exact hp) k hk t ht
    have hd := L.dep e g1
    have hm := (L.mem e.dep hd t).mpr ⟨e, g1, g2, rfl⟩
    have hdl : e.dep < rows.length := by
      refine Nat.lt_of_not_le fun z => ?_
      have hz : e.dep = rows.length := by omega
      have : (rows ++ [[]])[e.dep]'hd = [] := by
        rw [List.getElem_append_right (by omega)]
        simp
      rw [this] at hm; cases hm
    exact ⟨e.dep, hdl, g3, by rw [hget e.dep hdl] at hm; exact hm⟩
/-! ### a dict of naturals to naturals -/
def kD (S : List (Nat × Nat)) : List (Key × D) := S.map fun p => (Sum.inl (p.1 : Int), D.int (p.2 : Nat))
theorem look_kD : ∀ {S : List (Nat × Nat)} {t k : Nat}, (S.map (·.1)).Nodup → (t, k) ∈ S → D.look (kD S) (Sum.inl (t : Int) : Key) = some (.int (k : Nat))
  | [], _, _, _, h => nomatch h
  | x :: S, t, k, nd, h => by
    rw [List.map_cons, List.nodup_cons] at nd
    unfold kD
    rw [List.map_cons]
    unfold D.look
    rcases List.mem_cons.mp h with e | h
    · subst e
      exact if_pos rfl
    · rw [if_neg (fun z => by
        have z : (x.1 : Int) = (t : Int) := Sum.inl.inj z
        have : x.1 = t := by omega
        exact nd.1 (this ▸ List.mem_map.mpr ⟨_, h, rfl⟩))]
      exact look_kD nd.2 h
theorem look_kD_none : ∀ {S : List (Nat × Nat)} {t : Nat}, t ∉ S.map (·.1) → D.look (kD S) (Sum.inl (t : Int) : Key) = none
  | [], _, _ => rfl
  | x :: S, t, h => by
    rw [List.map_cons] at h
    unfold kD
    rw [List.map_cons]
    unfold D.look
    rw [if_neg (fun z => h (by
      have z : (x.1 : Int) = (t : Int) := Sum.inl.inj z
      have : t = x.1 := by omega
      rw [this]; exact List.mem_cons_self))]
    exact look_kD_none fun z => h (List.mem_cons_of_mem _ z)
theorem setDic_k {S : List (Nat × Nat)} {t k : Nat} (h : t ∉ S.map (·.1)) (hl : S.length < 16777216) : setDic (kD S) (.int (t : Nat)) (.int (k : Nat)) = .ok (kD (S ++ [(t, k)])) := by
  have e0 : setDic (kD S) (.int (t : Nat)) (.int (k : Nat)) = if (kD S).length < sizeLine then .ok (putKD (kD S) (.inl (t : Int)) (.int (k : Nat))) else .stuck := rfl
  rw [e0, if_pos (by unfold kD; rw [List.length_map, sizeLine_val]; exact hl)]
  unfold putKD
  rw [if_neg]
  · unfold kD
    rw [List.map_append]; rfl
  intro z
  obtain ⟨kv, hkv, hz⟩ := List.any_eq_true.mp z
  obtain ⟨e, he, rfl⟩ := List.mem_map.mp hkv
  have hz : (Sum.inl (e.1 : Int) : Key) = .inl (t : Int) := of_decide_eq_true hz
  have hz : (e.1 : Int) = (t : Int) := Sum.inl.inj hz
  have : t = e.1 := by omega
  exact h (this ▸ List.mem_map.mpr ⟨e, he, rfl⟩)
theorem v_getK {S : List (Nat × Nat)} {t k : Nat} (nd : (S.map (·.1)).Nodup) (h : (t, k) ∈ S) : getK (kD S) (.int (t : Nat)) = .ok (.int (k : Nat)) := by
  show Res.ok ((D.look (kD S) (.inl (t : Int))).getD .non) = _
  rw [look_kD nd h]; rfl
theorem v_ninK {S : List (Nat × Nat)} {t k : Nat} (nd : (S.map (·.1)).Nodup) (h : (t, k) ∈ S) : D.nin (.int (t : Nat)) (.dic (kD S)) = .ok (.bl false) := by
  have e : D.nin (.int (t : Nat)) (.dic (kD S)) = .ok (.bl (!(D.look (kD S) (.inl (t : Int))).isSome)) := rfl
  rw [e, look_kD nd h]; rfl
theorem v_ixK {S : List (Nat × Nat)} {t k : Nat} (nd : (S.map (·.1)).Nodup) (h : (t, k) ∈ S) : D.ix (.dic (kD S)) (.int (t : Nat)) = .ok (.int (k : Nat)) := by
  have e : D.ix (.dic (kD S)) (.int (t : Nat)) = .ofOpt (D.look (kD S) (.inl (t : Int))) := rfl
  rw [e, look_kD nd h]; rfl
@[simp] theorem v_asDic (l : List (Key × D)) : asDic (.dic l) = .ok l := id rfl
/-! ### deeds in a row -/
inductive Pth (sws : List Sw) (free : List Nat) : Nat → List Nat → Nat → Prop
  | nil (a : Nat) : Pth sws free a [] a
  | cons {a b c k : Nat} {ks : List Nat} (hk : k ∈ free) (h : dd sws a k = some b) (t : Pth sws free b ks c) : Pth sws free a (k :: ks) c
theorem Pth.snoc {sws : List Sw} {free : List Nat} {a b c k : Nat} {ks : List Nat} (t : Pth sws free a ks b) (hk : k ∈ free) (h : dd sws b k = some c) : Pth sws free a (ks ++ [k]) c := by
  induction t with
  | nil => exact .cons hk h (.nil _)
  | cons hk' h' _ ih => exact .cons hk' h' (ih h)
theorem Pth.app {sws : List Sw} {free : List Nat} {a b c : Nat} {ks ls : List Nat} (t : Pth sws free a ks b) (u : Pth sws free b ls c) : Pth sws free a (ks ++ ls) c := by
  induction t with
  | nil => exact u
  | cons hk' h' _ ih => exact .cons hk' h' (ih u)
theorem Pth.mono {sws : List Sw} {free free' : List Nat} (h : ∀ k ∈ free, k ∈ free') {a c : Nat} {ks : List Nat} (t : Pth sws free a ks c) : Pth sws free' a ks c := by
  induction t with
  | nil => exact .nil _
  | cons hk hd _ ih => exact .cons (h _ hk) hd ih
theorem s_np : (("never" : Str) = "plan") = False := eq_false (by decide +kernel)
/-- who is come to by so few deeds is known -/
theorem LayS.near {sws : List Sw} {free : List Nat} {st0 : Nat} {LL : List (List Nat)} {came : List Nd} (L : LayS sws free st0 LL came) : ∀ {ks : List Nat} {p t d : Nat}, Pth sws free p ks t → (∃ e ∈ came, e.st = p ∧ e.dep ≤ d) → d + ks.length < LL.length → ∃ e ∈ came, e.st = t ∧ e.dep ≤ d + ks.length
  | [], p, t, d, h, he, _ => by cases h; exact he
  | k :: ks, p, t, d, h, ⟨e, he, h1, h2⟩, hl => by
    cases h with
    | cons hk hd tl =>
      rw [List.length_cons] at hl
      have hm := (L.mem e.dep (by omega) p).mpr ⟨e, he, h1, rfl⟩
      obtain ⟨e', a1, a2, a3⟩ := L.shut e.dep (by omega) p hm k hk _ hd
      obtain ⟨e2, b1, b2, b3⟩ := L.near (d := d + 1) tl ⟨e', a1, a2, by omega⟩ (by omega)
      exact ⟨e2, b1, b2, by rw [List.length_cons]; omega⟩
theorem LayS.root {sws : List Sw} {free : List Nat} {st0 : Nat} {LL : List (List Nat)} {came : List Nd} (L : LayS sws free st0 LL came) : ∃ e ∈ came, e.st = st0 ∧ e.dep = 0 := by
  have h := L.first
  obtain ⟨hl, h⟩ := List.getElem?_eq_some_iff.mp h
  exact (L.mem 0 hl st0).mp (by rw [h]; exact List.mem_singleton.mpr rfl)
/-- all rows known, all come to are known -/
theorem LayS.all {sws : List Sw} {free : List Nat} {st0 : Nat} {rows : List (List Nat)} {came : List Nd} (L : LayS sws free st0 (rows ++ [[]]) came) : ∀ {ks : List Nat} {p t : Nat}, Pth sws free p ks t → p ∈ came.map Nd.st → t ∈ came.map Nd.st
  | [], p, t, h, he => by cases h; exact he
  | k :: ks, p, t, h, he => by
    cases h with
    | cons hk hd tl =>
      obtain ⟨e, hee, rfl⟩ := List.mem_map.mp he
      have hdp := L.dep e hee
      have hm := (L.mem e.dep hdp e.st).mpr ⟨e, hee, rfl, rfl⟩
      have hdl : e.dep < rows.length := by
        refine Nat.lt_of_not_le fun z => ?_
        rw [List.length_append, List.length_singleton] at hdp
        have hz : e.dep = rows.length := by omega
        have : (rows ++ [[]])[e.dep]'(by simp; omega) = [] := by
          rw [List.getElem_append_right (by omega)]
          simp
        rw [this] at hm; cases hm
      obtain ⟨e', a1, a2, a3⟩ := L.shut e.dep (by rw [List.length_append, List.length_singleton]; omega) _ hm k hk _ hd
      exact L.all tl (List.mem_map.mpr ⟨e', a1, a2⟩)
/-- a known one is come to by just so many deeds -/
theorem LayS.path {sws : List Sw} {free : List Nat} {st0 : Nat} {LL : List (List Nat)} {came : List Nd} (L : LayS sws free st0 LL came) : ∀ (d : Nat) (e : Nd), e ∈ came → e.dep = d → ∃ ks, Pth sws free st0 ks e.st ∧ ks.length = d
  | 0, e, he, hd => by
    have h := L.first
    obtain ⟨hl, h⟩ := List.getElem?_eq_some_iff.mp h
    have := (L.mem 0 hl e.st).mpr ⟨e, he, rfl, hd⟩
    rw [h] at this
    rw [List.mem_singleton.mp this]
    exact ⟨[], .nil _, rfl⟩
  | d + 1, e, he, hd => by
    obtain ⟨p, k, a1, a2, a3, e', a4, a5, a6⟩ := (L.par e he).2 d hd
    obtain ⟨ks, t, hl⟩ := L.path d e' a4 a6
    rw [a5] at t
    exact ⟨ks ++ [k], t.snoc a2 a3, by rw [List.length_append, hl]; rfl⟩
theorem pw_ext : ∀ {l m : List Nat}, l.Pairwise (· < ·) → m.Pairwise (· < ·) → (∀ t, t ∈ l ↔ t ∈ m) → l = m
  | [], [], _, _, _ => rfl
  | [], b :: m, _, _, h => absurd ((h b).mpr List.mem_cons_self) (by simp)
  | a :: l, [], _, _, h => absurd ((h a).mp List.mem_cons_self) (by simp)
  | a :: l, b :: m, h1, h2, h => by
    rw [List.pairwise_cons] at h1 h2
    have e : a = b := by
      have ha := (h a).mp List.mem_cons_self
      have hb := (h b).mpr List.mem_cons_self
      rcases List.mem_cons.mp ha with e | ha
      · exact e
      · rcases List.mem_cons.mp hb with e | hb
        · exact e.symm
        · have := h1.1 b hb
          have := h2.1 a ha
          omega
    subst e
    rw [pw_ext h1.2 h2.2 fun t => ?_]
    have := h t
    rw [List.mem_cons, List.mem_cons] at this
    constructor
    · intro ht
      rcases this.mp (.inr ht) with e | z
      · subst e
        have := h1.1 t ht
        omega
      · exact z
    · intro ht
      rcases this.mpr (.inr ht) with e | z
      · subst e
        have := h2.1 t ht
        omega
      · exact z
/-- the rows are these alone -/
theorem LayS.same {sws : List Sw} {free : List Nat} {st0 : Nat} {LL LL' : List (List Nat)} {came came' : List Nd} (L : LayS sws free st0 LL came) (L' : LayS sws free st0 LL' came') : ∀ (n i : Nat), i < n → ∀ (hi : i < LL.length) (hi' : i < LL'.length), LL[i] = LL'[i] := by
  have half : ∀ {LL LL' : List (List Nat)} {came came' : List Nd}, LayS sws free st0 LL came → LayS sws free st0 LL' came' → ∀ i (hi : i + 1 < LL.length) (hi' : i + 1 < LL'.length), (∀ j, j < i + 1 → ∀ (hj : j < LL.length) (hj' : j < LL'.length), LL[j] = LL'[j]) → ∀ t, t ∈ LL[i + 1] → t ∈ LL'[i + 1] := by
    intro LL LL' came came' L L' i hi hi' ih t ht
    obtain ⟨e, g1, g2, g3⟩ := (L.mem (i + 1) hi t).mp ht
    obtain ⟨p, k, a1, a2, a3, e', a4, a5, a6⟩ := (L.par e g1).2 i g3
    have hp : p ∈ LL[i] := (L.mem i (by omega) p).mpr ⟨e', a4, a5, a6⟩
    rw [ih i (by omega) (by omega) (by omega)] at hp
    rw [g2] at a3
    obtain ⟨e2, b1, b2, b3⟩ := L'.shut i hi' p hp k a2 t a3
    have hm := (L'.mem e2.dep (L'.dep e2 b1) t).mpr ⟨e2, b1, b2, rfl⟩
    by_cases z : e2.dep = i + 1
    · have : LL'[e2.dep]'(L'.dep e2 b1) = LL'[i + 1] := by simp only [z]
      rwa [this] at hm
    · have hlt : e2.dep < i + 1 := by omega
      rw [← ih e2.dep hlt (by omega) (L'.dep e2 b1)] at hm
      have := L.uniq (by omega) hi hm ht
      omega
  intro n
  induction n with
  | zero => intro i h; omega
  | succ n ih =>
    intro i hin hi hi'
    cases i with
    | zero =>
      have h1 := L.first
      have h2 := L'.first
      rw [List.getElem?_eq_getElem hi] at h1
      rw [List.getElem?_eq_getElem hi'] at h2
      rw [Option.some.inj h1, Option.some.inj h2]
    | succ i =>
      refine pw_ext (L.srt _ (List.getElem_mem hi)) (L'.srt _ (List.getElem_mem hi')) fun t => ⟨half L L' i hi hi' (fun j hj a b => ih j (by omega) a b) t, half L' L i hi' hi (fun j hj a b => (ih j (by omega) b a).symm) t⟩
end RL

/-! RM9: parts of lists, sums, permutations. -/
namespace RL
open PySem L2
theorem cut_to {α : Type} (l : List α) (k : Nat) : D.cut l none (some (k : Int)) = l.take k := by
  unfold D.cut
  have e1 : HT.sIx l.length l.length (some (k : Int)) = min k l.length := HT.sIx_nat l.length l.length k
  have e0 : HT.sIx l.length 0 none = 0 := rfl
  rw [e1, e0, List.drop_zero, Nat.sub_zero]
  by_cases h : k ≤ l.length
  · rw [Nat.min_eq_left h]
  · rw [Nat.min_eq_right (by omega), List.take_of_length_le (Nat.le_refl _), List.take_of_length_le (by omega)]
theorem cut_from {α : Type} (l : List α) (k : Nat) : D.cut l (some (k : Int)) none = l.drop k := by
  unfold D.cut
  have e1 : HT.sIx l.length 0 (some (k : Int)) = min k l.length := HT.sIx_nat l.length 0 k
  have e0 : HT.sIx l.length l.length none = l.length := rfl
  rw [e1, e0]
  by_cases h : k ≤ l.length
  · rw [Nat.min_eq_left h, List.take_of_length_le (by rw [List.length_drop]; exact Nat.le_refl _)]
  · rw [Nat.min_eq_right (by omega), List.drop_of_length_le (Nat.le_refl _), List.drop_of_length_le (by omega), List.take_nil]
theorem v_sliceL (l : List D) (lo hi : Option Int) : D.sliceI (.lst l) lo hi = .ok (.lst (D.cut l lo hi)) := rfl
theorem v_sumG {α : Type} (l : List α) (g : α → Nat) : D.sum (.lst (l.map fun k => D.int ((g k : Nat) : Int))) = .ok (.int (((l.map g).sum : Nat) : Int)) := by
  have e : (l.map fun k => D.int ((g k : Nat) : Int)) = (l.map fun k => ((g k : Nat) : Int)).map D.int := by rw [List.map_map]; rfl
  rw [e, v_sum]
  congr 2
  clear e
  induction l with
  | nil => rfl
  | cons a l ih => rw [List.map_cons, List.map_cons, List.sum_cons, List.sum_cons, ih]; omega
/-- a sum of unlike powers -/
theorem sum_mask_nd {l : List Nat} (h : l.Nodup) : (∀ i, (l.map fun k => 2 ^ k).sum.testBit i = decide (i ∈ l)) ∧ ∀ m, (∀ k ∈ l, k < m) → (l.map fun k => 2 ^ k).sum < 2 ^ m := by
  obtain ⟨s, h1, h2, _⟩ := srt_nat l
  obtain ⟨g1, g2⟩ := sum_mask_up (sorted_strict h2 (h1.nodup_iff.mpr h))
  have e : (s.map fun k => 2 ^ k).sum = (l.map fun k => 2 ^ k).sum := (h1.map _).sum_nat
  rw [e] at g1 g2
  exact ⟨fun i => by rw [g1 i]; exact decide_eq_decide.mpr h1.mem_iff, fun m hm => g2 m fun k hk => hm k (h1.mem_iff.mp hk)⟩
theorem nodup_perm : ∀ {l m : List Nat}, l.Nodup → (∀ x ∈ l, x ∈ m) → m.length ≤ l.length → l.Perm m
  | [], m, _, _, h => by
    have : m = [] := List.eq_nil_of_length_eq_zero (by simpa using h)
    rw [this]
  | a :: l, m, nd, hs, hl => by
    rw [List.nodup_cons] at nd
    have ha := hs a List.mem_cons_self
    have hp := List.perm_cons_erase ha
    have h1 : l.Perm (m.erase a) := nodup_perm nd.2 (fun x hx => by
      have hxa : x ≠ a := fun z => nd.1 (z ▸ hx)
      exact (List.mem_erase_of_ne hxa).mpr (hs x (List.mem_cons_of_mem _ hx))) (by
      rw [List.length_erase_of_mem ha]
      rw [List.length_cons] at hl
      omega)
    exact (h1.cons a).trans hp.symm
/-- what no deed of a row turns stays -/
theorem Pth.bit {sws : List Sw} {free : List Nat} {a c i : Nat} {ks : List Nat} (t : Pth sws free a ks c) (h : i ∉ ks) : c.testBit i = a.testBit i := by
  induction t with
  | nil => rfl
  | cons hk hd _ ih =>
    rw [ih fun z => h (List.mem_cons_of_mem _ z), dd_xor hd, xor_bit]
    exact if_neg (fun z => h (by rw [z]; exact List.mem_cons_self))
theorem v_addLL' {l m : List D} (h : l.length + m.length ≤ 1000) : D.add (.lst l) (.lst m) = .ok (.lst (l ++ m)) := v_addLL (by omega)
theorem nL_app (l m : List Nat) : nL l ++ nL m = nL (l ++ m) := (List.map_append ..).symm
theorem cut_nL (l : List Nat) (lo hi : Option Int) : D.cut (nL l) lo hi = nL (D.cut l lo hi) := cut_V _ _ _ _
theorem rngL_nat {n : Nat} (h : n ≤ 1000000) : D.rngL (.int (n : Nat)) = .ok (nL (List.range n)) := by
  have e0 : D.rngL (.int (n : Nat)) = if 0 ≤ (n : Int) ∧ (n : Int) ≤ 16777216 then .ok (D.rng 0 (n : Int).toNat) else .stuck := rfl
  rw [e0, if_pos (by omega), Int.toNat_natCast, rng_map]; rfl
end RL

/-! RM10: sets of bars told as lists of truths. -/
namespace RL
open PySem L2
def bL (n s : Nat) : List D := (List.range n).map fun i => D.bl (s.testBit i)
theorem bL_len (n s : Nat) : (bL n s).length = n := by simp [bL]
theorem bL_ix {n s i : Nat} (h : i < n) : D.ix (.lst (bL n s)) (.int (i : Int)) = .ok (.bl (s.testBit i)) := by
  rw [v_ixL, atI_nat, bL, List.getElem?_map, List.getElem?_range h]; rfl
theorem ixN_nat {n i : Nat} (h : i < n) : ixN n (i : Int) = some i := by
  unfold ixN
  rw [if_pos (by omega), if_pos (by omega)]
  rfl
theorem bL_set {n s i : Nat} (h : i < n) : setL (bL n s) (.int (i : Int)) (.bl true) = .ok (bL n (s ||| 2 ^ i)) := by
  have e : (bL n s).set i (.bl true) = bL n (s ||| 2 ^ i) := by
    refine List.ext_getElem (by simp [bL]) fun j h1 h2 => ?_
    rw [List.getElem_set]
    simp only [bL, List.getElem_map, List.getElem_range, Nat.testBit_or, Nat.testBit_two_pow]
    by_cases z : i = j
    · subst z; simp
    · simp [z]
  unfold setL
  simp only [bL_len, ixN_nat h, e]
theorem bL_zero (n : Nat) : bL n 0 = List.replicate n (.bl false) := by
  refine List.ext_getElem (by simp [bL]) fun j h1 h2 => ?_
  simp [bL]
theorem v_mulC0 {n : Nat} (h : n ≤ 1000000) : mulC [D.bl false] (.int (n : Int)) = .ok (bL n 0) := by
  have e : (List.replicate (n : Int).toNat [D.bl false]).flatten = bL n 0 := by
    rw [bL_zero, Int.toNat_natCast]
    clear h
    induction n with
    | zero => rfl
    | succ k ih => rw [List.replicate_succ, List.replicate_succ, List.flatten_cons, ih]; rfl
  simp only [mulC, e]
  rw [if_pos]
  refine ⟨by omega, by omega, ?_⟩
  rw [sizeLine_val]
  simp; omega
theorem bL_one {n a : Nat} : (List.range n).map (fun (i : Nat) => D.bl (decide ((i : Int) = (a : Int)))) = bL n (2 ^ a) := by
  refine List.ext_getElem (by simp [bL]) fun j h1 h2 => ?_
  simp only [bL, List.getElem_map, List.getElem_range, Nat.testBit_two_pow]
  exact congrArg D.bl (decide_eq_decide.mpr (by omega))
theorem v_toL_bL (n s : Nat) : D.toL (.lst (bL n s)) = .ok (bL n s) := rfl
theorem v_neBB (a b : Bool) : D.ne (.bl a) (.bl b) = .ok (.bl (!decide (a = b))) := v_neB a b
theorem sw_len (s : Sw) : D.len s.d = .ok (.int (if s.long = true then 3 else 2)) := by cases s <;> rfl
theorem sw_fst (s : Sw) : D.ix s.d (.int 1) = .ok (.int (s.fst : Nat)) := d_fst s
theorem sw_snd {s : Sw} (h : s.long = true) : D.ix s.d (.int 2) = .ok (.int (s.snd : Nat)) := by cases s <;> first | rfl | cases h
/-- one bit more: both ends of a pair -/
theorem mask_or {s : Sw} (h : s.long = true) (f : Nat) : (f ||| 2 ^ s.fst) ||| 2 ^ s.snd = f ||| s.mask := by
  refine Nat.eq_of_testBit_eq fun i => ?_
  rw [Nat.testBit_or, Nat.testBit_or, Nat.testBit_or, Nat.testBit_two_pow, Nat.testBit_two_pow]
  have e := s.mask_bit h i
  by_cases z1 : s.fst = i <;> by_cases z2 : s.snd = i
  · have : s.mask.testBit i = true := e.mpr (.inl z1.symm); simp [z1, z2, this]
  · have : s.mask.testBit i = true := e.mpr (.inl z1.symm); simp [z1, z2, this]
  · have : s.mask.testBit i = true := e.mpr (.inr z2.symm); simp [z1, z2, this]
  · have : s.mask.testBit i = false := by
      cases q : s.mask.testBit i with
      | false => rfl
      | true => rcases e.mp q with y | y
                · exact absurd y.symm z1
                · exact absurd y.symm z2
    simp [z1, z2, this]
theorem one_cl (P : List Nat) (a b : Nat) : (cl P (2 ^ a)).testBit b = true ↔ Rch P a b := by
  rw [cl_bit]
  constructor
  · rintro ⟨c, h1, h2⟩
    rw [Nat.testBit_two_pow] at h1
    have e : a = c := of_decide_eq_true h1
    subst e; exact h2
  · exact fun r => ⟨a, Nat.testBit_two_pow_self, r⟩
/-- the number of a list of truths -/
def bN (l : List D) : Nat := mkN l.length fun i => match l[i]? with
  | some (.bl true) => true
  | _ => false
theorem bN_bL {n f : Nat} (h : f < 2 ^ n) : bN (bL n f) = f := by
  refine Nat.eq_of_testBit_eq fun i => ?_
  unfold bN
  rw [mkN_bit, bL_len]
  by_cases z : i < n
  · have e : (bL n f)[i]? = some (.bl (f.testBit i)) := by
      rw [bL, List.getElem?_map, List.getElem?_range z]; rfl
    rw [e]
    cases f.testBit i <;> simp [z]
  · have e : f.testBit i = false := Nat.testBit_lt_two_pow (Nat.lt_of_lt_of_le h (Nat.pow_le_pow_right (by omega) (by omega)))
    simp [z, e]
/-- a pair whose ends are alike -/
theorem alike {s : Sw} (hl : s.long = true) {f : Nat} (h : f.testBit s.fst = f.testBit s.snd) (hn : f &&& s.mask ≠ 0) : Le s.mask f := by
  obtain ⟨i, h1, h2⟩ := and_ne.mp hn
  intro j hj
  rcases (s.mask_bit hl i).mp h2 with e | e <;> rcases (s.mask_bit hl j).mp hj with e2 | e2 <;> subst e e2
  · exact h1
  · rw [← h]; exact h1
  · rw [h]; exact h1
  · exact h1
theorem unlike {s : Sw} (hl : s.long = true) {f : Nat} (h : f.testBit s.fst ≠ f.testBit s.snd) : f &&& s.mask ≠ 0 ∧ f < f ||| s.mask := by
  constructor
  · cases q : f.testBit s.fst with
    | true => exact and_ne.mpr ⟨_, q, Sw.mask_fst s hl⟩
    | false =>
      cases q2 : f.testBit s.snd with
      | true => exact and_ne.mpr ⟨_, q2, Sw.mask_snd s hl⟩
      | false => exact absurd (q.trans q2.symm) h
  · have a : f ≤ f ||| s.mask := Nat.left_le_or
    refine Nat.lt_of_le_of_ne a fun e => h ?_
    have l : Le s.mask f := Le.of_or_eq e.symm
    rw [l _ (Sw.mask_fst s hl), l _ (Sw.mask_snd s hl)]
theorem v_mkLstC1 (a : D) : mkLstC [a] = .ok [a] := rfl
theorem sub_bit {a k : Nat} (h : a.testBit k = true) : (a : Int) - ((2 ^ k : Nat) : Int) = ((diff a (2 ^ k) : Nat) : Int) := by
  have e := diff_add a (2 ^ k)
  have e2 : a &&& 2 ^ k = 2 ^ k := by
    refine Nat.eq_of_testBit_eq fun i => ?_
    rw [Nat.testBit_and, Nat.testBit_two_pow]
    by_cases z : k = i
    · subst z; simp [h]
    · simp [z]
  omega
theorem diff_none {a k : Nat} (h : a.testBit k = false) : diff a (2 ^ k) = a := by
  have e := diff_add a (2 ^ k)
  have e2 : a &&& 2 ^ k = 0 := by
    refine Nat.eq_of_testBit_eq fun i => ?_
    rw [Nat.testBit_and, Nat.testBit_two_pow, Nat.zero_testBit]
    by_cases z : k = i
    · subst z; simp [h]
    · simp [z]
  omega
end RL

/-! RM11: loops with a break; rows turned round. -/
namespace RL
open PySem L2
theorem loop_bk {α τ β κ : Type} {f : α → τ → Res (Fl τ τ κ)} (I : Nat → τ → Prop) (B : τ → Prop) (ds : List α) (s : τ) (h0 : I 0 s)
    (hs : ∀ i (h : i < ds.length) s, I i s → Nxt (I (i + 1)) (f ds[i] s) ∨ ∃ t, f ds[i] s = .ok (.bk t) ∧ B t) :
    ∃ t, loop (β := β) ds s f = .ok (.nx t) ∧ (I ds.length t ∨ B t) := by
  have key : ∀ (k i : Nat) (s : τ), ds.length - i = k → i ≤ ds.length → I i s → ∃ t, loop (β := β) (ds.drop i) s f = .ok (.nx t) ∧ (I ds.length t ∨ B t) := by
    intro k
    induction k with
    | zero =>
      intro i s hk hi h
      have e : i = ds.length := by omega
      subst e
      rw [List.drop_length]
      exact ⟨s, rfl, .inl h⟩
    | succ k ih =>
      intro i s hk hi h
      have hi2 : i < ds.length := by omega
      rw [List.drop_eq_getElem_cons hi2]
      rcases hs i hi2 s h with ⟨t, e | e, q⟩ | ⟨t, e, q⟩
      · obtain ⟨u, h1, h2⟩ := ih (i + 1) t (by omega) (by omega) q
        refine ⟨u, ?_, h2⟩
        unfold loop; rw [e]; exact h1
      · obtain ⟨u, h1, h2⟩ := ih (i + 1) t (by omega) (by omega) q
        refine ⟨u, ?_, h2⟩
        unfold loop; rw [e]; exact h1
      · refine ⟨t, ?_, .inr q⟩
        unfold loop; rw [e]
  exact key _ 0 s rfl (Nat.zero_le _) h0
theorem told_loopB {α τ : Type} {f : α → τ → Res (Fl τ τ Unit)} {k : τ → Me} {R : Res D} (I : Nat → τ → Prop) (B : τ → Prop) {ds : List α} {s : τ} (h0 : I 0 s)
    (hs : ∀ i (h : i < ds.length) s, I i s → Nxt (I (i + 1)) (f ds[i] s) ∨ ∃ t, f ds[i] s = .ok (.bk t) ∧ B t) (hk : ∀ t, I ds.length t ∨ B t → told (k t) = R) : told (andThen (loop ds s f) k) = R := by
  obtain ⟨t, h1, h2⟩ := loop_bk (β := Empty) I B ds s h0 hs
  rw [h1]; exact hk t h2
/-- 0 .. m - 1, turned round by a -/
theorem turn_inj {a : Int} {m i j : Nat} (hi : i < m) (hj : j < m) (h : (a + i) % (m : Int) = (a + j) % (m : Int)) : i = j := by
  have h1 : ((a + i) - (a + j)) % (m : Int) = 0 := Int.emod_eq_emod_iff_emod_sub_eq_zero.mp h
  have h2 : (m : Int) ∣ (i : Int) - j := by
    have := Int.dvd_of_emod_eq_zero h1
    rwa [show (a + i) - (a + j) = (i : Int) - j by omega] at this
  have h3 : (i : Int) - j = 0 := Int.eq_zero_of_dvd_of_natAbs_lt_natAbs h2 (by omega)
  omega
theorem turn_nodup (a : Int) (m : Nat) : ((List.range m).map fun (i : Nat) => ((a + i) % (m : Int)).toNat).Nodup := by
  refine List.pairwise_map.mpr (List.Pairwise.imp_of_mem (fun {i j} hi hj hne h => hne ?_) List.nodup_range)
  have hi := List.mem_range.mp hi
  have hj := List.mem_range.mp hj
  have hm : (0 : Int) < (m : Int) := by omega
  have h1 := Int.emod_nonneg (a + i) (show (m : Int) ≠ 0 by omega)
  have h2 := Int.emod_nonneg (a + j) (show (m : Int) ≠ 0 by omega)
  exact turn_inj (a := a) hi hj (by omega)
theorem turn_lt {a : Int} {m k : Nat} (h : k ∈ (List.range m).map fun (i : Nat) => ((a + i) % (m : Int)).toNat) : k < m := by
  obtain ⟨i, hi, rfl⟩ := List.mem_map.mp h
  have hi := List.mem_range.mp hi
  have h1 := Int.emod_lt_of_pos (a + i) (show (0 : Int) < (m : Int) by omega)
  have h2 := Int.emod_nonneg (a + i) (show (m : Int) ≠ 0 by omega)
  omega
theorem turn_perm (a : Int) (m : Nat) : ((List.range m).map fun (i : Nat) => ((a + i) % (m : Int)).toNat).Perm (List.range m) :=
  nodup_perm (turn_nodup a m) (fun x hx => List.mem_range.mpr (turn_lt hx)) (by rw [List.length_map]; exact Nat.le_refl _)
theorem turn_mem {a : Int} {m k : Nat} (h : k < m) : k ∈ (List.range m).map fun (i : Nat) => ((a + i) % (m : Int)).toNat :=
  (turn_perm a m).mem_iff.mpr (List.mem_range.mpr h)
def Sw.code : Sw → Nat × Nat × Nat
  | .feed a => (0, a, 0)
  | .earth a => (1, a, 0)
  | .br a b => (2, a, b)
  | .sp a b => (3, a, b)
theorem Sw.code_inj {s t : Sw} (h : s.code = t.code) : s = t := by
  have h0 := congrArg (·.1) h
  have h1 := congrArg (·.2.1) h
  have h2 := congrArg (·.2.2) h
  cases s <;> cases t <;> simp only [Sw.code] at h0 h1 h2 <;> first | omega | (rw [h1, h2]) | (rw [h1])
instance : DecidableEq Sw := fun s t => decidable_of_iff (s.code = t.code) ⟨Sw.code_inj, fun h => by rw [h]⟩
theorem s_fb : (("feed" : Str) = "breaker") = False := eq_false (by decide +kernel)
theorem s_fs : (("feed" : Str) = "splitter") = False := eq_false (by decide +kernel)
theorem s_eb : (("earth" : Str) = "breaker") = False := eq_false (by decide +kernel)
theorem s_es : (("earth" : Str) = "splitter") = False := eq_false (by decide +kernel)
theorem s_bs : (("breaker" : Str) = "splitter") = False := eq_false (by decide +kernel)
theorem sw_inj {s t : Sw} (h : s.d = t.d) : s = t := by
  cases s <;> cases t <;> unfold Sw.d at h <;> simp only [D.tup.injEq, List.cons.injEq, D.str.injEq, s_fe, s_ef, s_be, s_bf, s_sb, s_se, s_sf, s_fb, s_fs, s_eb, s_es, s_bs, false_and, D.int.injEq, Int.ofNat_inj, true_and, and_true] at h
  · rw [h]
  · rw [h]
  · rw [h.1, h.2]
  · rw [h.1, h.2]
theorem v_eq_sw (s t : Sw) : D.eq s.d t.d = .ok (.bl (decide (s = t))) := by
  by_cases h : s = t
  · subst h
    rw [v_eq_self (ok_sw s) (by decide), decide_eq_true rfl]
  · rw [v_eq_ok (ok_sw s) (ok_sw t) (by decide) (by decide)]
    have h2 : ¬ s.d = t.d := fun z => h (sw_inj z)
    simp [h, h2]
theorem ix_sw {sws : List Sw} {k : Nat} (h : k < sws.length) : D.ix (.lst (sws.map Sw.d)) (.int (k : Int)) = .ok (swAt sws k).d := by
  rw [v_ixL, atI_nat, List.getElem?_map, List.getElem?_eq_getElem h, swAt_get h]; rfl
theorem ok_at {sws : List Sw} {k n : Nat} (h : k < sws.length) (ho : ∀ s ∈ sws, s.Ok n) : (swAt sws k).Ok n := by
  rw [swAt_get h]; exact ho _ (List.getElem_mem h)
theorem add_xor {a k : Nat} (h : a.testBit k = false) : a + 2 ^ k = a ^^^ 2 ^ k := by
  have h1 : a &&& 2 ^ k = 0 := by
    refine Classical.byContradiction fun z => ?_
    obtain ⟨i, h1, h2⟩ := and_ne.mp z
    rw [Nat.testBit_two_pow] at h2
    have := of_decide_eq_true h2
    subst this
    rw [h] at h1; cases h1
  have h2 := or_and_add (a + 1) a (2 ^ k) (Nat.lt_succ_self a)
  have h3 := xor_and_or a (2 ^ k)
  omega
theorem nodup_take {l : List Nat} (nd : l.Nodup) {i : Nat} (h : i < l.length) : l[i] ∉ l.take i := fun hm => by
  obtain ⟨j, hj, e⟩ := List.mem_iff_getElem.mp hm
  rw [List.length_take] at hj
  rw [List.getElem_take] at e
  have := List.pairwise_iff_getElem.mp nd j i (by omega) h (by omega)
  exact this e
theorem mem_take1 {l : List Nat} {i x : Nat} (h : i < l.length) : x ∈ l.take (i + 1) ↔ x ∈ l.take i ∨ x = l[i] := by
  rw [List.take_succ_eq_append_getElem h, List.mem_append, List.mem_singleton]
theorem live_none {sws : List Sw} {st : Nat} (h : ∀ j, j < sws.length → st.testBit j = true → (swAt sws j).fmask = 0) : liveN sws st = 0 := by
  have e : fset Sw.fmask sws st = 0 := by
    refine Nat.eq_of_testBit_eq fun i => ?_
    rw [Nat.zero_testBit]
    refine Bool.eq_false_iff.mpr fun z => ?_
    obtain ⟨k, s, h1, h2, h3⟩ := fset_bit.mp z
    obtain ⟨hk, e⟩ := List.getElem?_eq_some_iff.mp h1
    have := h k hk h2
    rw [swAt_get hk, e] at this
    rw [this] at h3
    simp at h3
  unfold liveN
  rw [e, cl_zero]
end RL

/-! RM12: loops in defs that are handed cells. -/
namespace RL
open PySem L2
theorem bloopN {α τ γ : Type} {f : α → τ → Res (Fl τ τ γ)} {k : τ → Res (Fl γ Empty γ)} {P : Res (D × γ) → Prop} {b : Bool} (I : Nat → τ → Prop) {ds : List α} {s : τ} (h0 : I 0 s)
    (hs : ∀ i (h : i < ds.length) s, I i s → Nxt (I (i + 1)) (f ds[i] s)) (hk : ∀ t, I ds.length t → P (toldB b (k t))) : P (toldB b (andThen (loop ds s f) k)) := by
  obtain ⟨t, h1, h2⟩ := loop_ix (β := Empty) I ds s h0 hs
  rw [h1]; exact hk t h2
/-- a loop that may tell something -/
theorem bloopR {α τ γ : Type} {f : α → τ → Res (Fl τ τ γ)} {k : τ → Res (Fl γ Empty γ)} {P : Res (D × γ) → Prop} {b : Bool} (I : Nat → τ → Prop) (Rt : D → γ → Prop) {ds : List α} {s : τ} (h0 : I 0 s)
    (hs : ∀ i (h : i < ds.length) s, I i s → Stp (I (i + 1)) Rt (f ds[i] s)) (hk : ∀ t, I ds.length t → P (toldB b (k t))) (hr : ∀ d u, Rt d u → P (toldB b (.ok (.rt d u)))) : P (toldB b (andThen (loop ds s f) k)) := by
  rcases loop_rt (β := Empty) I Rt ds s h0 hs with ⟨t, h1, h2⟩ | ⟨d, u, h1, h2⟩
  · rw [h1]; exact hk t h2
  · rw [h1]; exact hr d u h2
theorem v_mapR {α β : Type} (f : α → β) (a : α) : mapR f (.ok a) = .ok (f a) := id rfl
theorem v_mapRx {α β : Type} (f : α → β) (k : Str) : mapR f (.exc k) = .exc k := id rfl
theorem v_sndM {γ γo : Type} (up : γo → γ) (a : D) (b : γo) : sndM up (a, b) = (a, up b) := id rfl
theorem v_ub {γ α : Type} (m : γ → α) (a : D) (b : γ) : ub m (a, b) = m b := id rfl
theorem v_uiT {γ α : Type} (ma mb : γ → α) (c : γ) : ui ma mb (true, c) = ma c := id rfl
theorem v_uiF {γ α : Type} (ma mb : γ → α) (c : γ) : ui ma mb (false, c) = mb c := id rfl
theorem v_ur {τ β κ γ : Type} (fc : γ → κ) (d : D) (c : γ) : (ur fc (d, c) : Res (Fl τ β κ)) = .ok (.rt d (fc c)) := id rfl
theorem v_uaT {γ : Type} (n : γ → Res (Bool × γ)) (c : γ) : ua n (true, c) = noE (n c) := id rfl
theorem v_uaF {γ : Type} (n : γ → Res (Bool × γ)) (c : γ) : ua n (false, c) = .ok (false, c) := id rfl
theorem v_uoT {γ : Type} (n : γ → Res (Bool × γ)) (c : γ) : uo n (true, c) = .ok (true, c) := id rfl
theorem v_uoF {γ : Type} (n : γ → Res (Bool × γ)) (c : γ) : uo n (false, c) = noE (n c) := id rfl
theorem v_ue {γ : Type} (mes : γ → Res (List D)) (d : D) (c : γ) : ue mes (d, c) = noE (mapR (fun ds => (d :: ds, c)) (mes c)) := id rfl
theorem v_ut {γ : Type} (G : List D → Res D) (ds : List D) (c : γ) : ut G (ds, c) = thenC c (G ds) := id rfl
theorem v_thenC {α γ : Type} (c : γ) (a : α) : thenC c (.ok a) = .ok (a, c) := id rfl
theorem v_noEo {α : Type} (a : α) : noE (.ok a) = .ok a := id rfl
theorem v_uv {γ : Type} (b : Bool) (c : γ) : uv (D.bl b, c) = .ok (b, c) := id rfl
theorem v_uq {α γ : Type} (f : D → Res (List D)) (mr : List D → γ → Res α) (d : D) (c : γ) : uq f mr (d, c) = (f d).bind fun ds => mr ds c := id rfl
theorem v_ucL {α γ : Type} (mr : List D → γ → Res α) (l : List D) (c : γ) : ucL mr (.lst l, c) = mr l c := id rfl
theorem v_uaVT {γ : Type} (n : γ → Res (D × γ)) (c : γ) : uaV n (.bl true, c) = noE (n c) := id rfl
theorem v_uaVF {γ : Type} (n : γ → Res (D × γ)) (c : γ) : uaV n (.bl false, c) = .ok (.bl false, c) := id rfl
theorem v_tryOk {τ' κ : Type} (x : Fl τ' Empty κ) (h : Str → Res (Fl τ' Empty κ)) : tryM (.ok x) h = .ok x := id rfl
theorem v_tryEx {τ' κ : Type} (k : Str) (h : Str → Res (Fl τ' Empty κ)) : tryM (.exc k) h = h k := id rfl
theorem castadd (a b : Nat) : (a : Int) + (b : Int) = ((a + b : Nat) : Int) := by omega
theorem mkN_self {m a : Nat} (h : a < 2 ^ m) : mkN m (fun j => a.testBit j) = a := by
  apply Nat.eq_of_testBit_eq
  intro j
  rw [mkN_bit]
  by_cases z : j < m
  · simp [z]
  · have : a.testBit j = false := Nat.testBit_lt_two_pow (Nat.lt_of_lt_of_le h (Nat.pow_le_pow_right (by omega) (by omega)))
    simp [z, this]
theorem lt_of_bits {a m : Nat} (h : ∀ j, a.testBit j = true → j < m) : a < 2 ^ m :=
  Nat.lt_pow_two_of_testBit a fun i hi => Bool.eq_false_iff.mpr fun z => by have := h i z; omega
theorem mk_succ (i : Nat) (f : Nat → Bool) : mkN (i + 1) f = if f i = true then mkN i f + 2 ^ i else mkN i f := by
  have hb : (mkN i f).testBit i = false := by rw [mkN_bit]; simp
  apply Nat.eq_of_testBit_eq
  intro j
  rw [mkN_bit]
  by_cases z : f i = true
  · rw [if_pos z, add_xor hb, xor_bit, mkN_bit]
    by_cases y : j = i
    · subst y; simp [z]
    · have : decide (j < i + 1) = decide (j < i) := decide_eq_decide.mpr (by omega)
      simp [y, this]
  · rw [if_neg z, mkN_bit]
    by_cases y : j = i
    · subst y; simp [z]
    · have : decide (j < i + 1) = decide (j < i) := decide_eq_decide.mpr (by omega)
      rw [this]
end RL

/-! RM13: texts of yards. -/
namespace RL
open PySem L2
def numS (k : Nat) : Str := ((toString (k : Int) : String) : Str)
theorem numS_free {k c : Nat} (h : c ≠ 45 ∧ (c < 48 ∨ 57 < c)) : c ∉ (numS k).cps.toList := _root_.PyProof.Rows.int_text_free' c h (k : Int)
theorem numS_len {k : Nat} (h : k ≤ 10) : 1 ≤ (numS k).length ∧ (numS k).length ≤ 2 := by
  have : ∀ k ≤ 10, 1 ≤ (numS k).length ∧ (numS k).length ≤ 2 := by decide +kernel
  exact this k h
theorem numS_int {k : Nat} (h : k ≤ 10) : PySem.intText? (numS k) = some (k : Int) := PySem.W.KIN.num_reads (by omega) (by omega)
theorem v_str1 {k : Nat} (h : k ≤ 10) : D.str1 (.int (k : Int)) = .ok (.str (numS k)) := by
  have : ∀ k ≤ 10, ((k : Nat) : Int).natAbs.log2 < 1920 := by decide +kernel
  show (if ((k : Nat) : Int).natAbs.log2 < 1920 then Res.ok (D.str (numS k)) else Res.stuck) = _
  rw [if_pos (this k h)]
theorem v_int1 {k : Nat} (h : k ≤ 10) : D.int1 (.str (numS k)) = .ok (.int (k : Int)) := by
  have := (numS_len h).2
  show (if (numS k).length ≤ 640 then Res.ofOpt ((PySem.intText? (numS k)).map D.int) else .stuck) = _
  rw [if_pos (by omega), numS_int h]; rfl
def Sw.words : Sw → List Str
  | .feed a => ["feed", numS a]
  | .earth a => ["earth", numS a]
  | .br a b => ["breaker", numS a, numS b]
  | .sp a b => ["splitter", numS a, numS b]
def Sw.row (s : Sw) : Str := Txt.join " " s.words
theorem words_free (s : Sw) : ∀ p ∈ s.words, 32 ∉ p.cps.toList ∧ 10 ∉ p.cps.toList := by
  have hn : ∀ k, 32 ∉ (numS k).cps.toList ∧ 10 ∉ (numS k).cps.toList := fun k => ⟨numS_free (by decide), numS_free (by decide)⟩
  cases s <;> intro p hp <;> simp only [Sw.words, List.mem_cons, List.not_mem_nil, or_false] at hp
  · rcases hp with rfl | rfl
    · decide +kernel
    · exact hn _
  · rcases hp with rfl | rfl
    · decide +kernel
    · exact hn _
  · rcases hp with rfl | rfl | rfl
    · decide +kernel
    · exact hn _
    · exact hn _
  · rcases hp with rfl | rfl | rfl
    · decide +kernel
    · exact hn _
    · exact hn _
theorem split_row (s : Sw) : Txt.split s.row " " = s.words :=
  TL.split_join (s := 32) (S := []) (by decide +kernel) (by decide +kernel) (by cases s <;> simp [Sw.words]) fun p hp => (words_free s p hp).1
def cntS (n : Nat) : Str := Txt.join " " [("bars" : Str), numS n]
theorem split_cnt (n : Nat) : Txt.split (cntS n) " " = [("bars" : Str), numS n] :=
  TL.split_join (s := 32) (S := []) (by decide +kernel) (by decide +kernel) (by simp) fun p hp => by
    simp only [List.mem_cons, List.not_mem_nil, or_false] at hp
    rcases hp with rfl | rfl
    · decide +kernel
    · exact numS_free (by decide)
theorem tl_join_free {y : Str} {c : Nat} (hy : c ∉ y.cps.toList) : ∀ {ps : List Str}, (∀ p ∈ ps, c ∉ p.cps.toList) → c ∉ (Txt.join y ps).cps.toList := by
  intro ps h
  rw [TL.join_eq]
  rw [show (Str.join y ps).cps.toList = TL.joinL y.cps.toList (ps.map TL.tl) from TL.tl_join y ps]
  induction ps with
  | nil => exact fun z => by cases z
  | cons p r ih =>
    cases r with
    | nil => exact h p (List.mem_cons_self ..)
    | cons q r =>
      show c ∉ TL.tl p ++ (y.cps.toList ++ TL.joinL y.cps.toList ((q :: r).map TL.tl))
      rw [List.mem_append, List.mem_append]
      rintro (z | z | z)
      · exact h p (List.mem_cons_self ..) z
      · exact hy z
      · exact ih (fun p hp => h p (List.mem_cons_of_mem _ hp)) z
/-- the text of a yard -/
def yS (n : Nat) (sws : List Sw) : Str := Txt.join "\n" (cntS n :: sws.map Sw.row)
theorem split_yS (n : Nat) (sws : List Sw) : Txt.split (yS n sws) "\n" = cntS n :: sws.map Sw.row :=
  TL.split_join (s := 10) (S := []) (by decide +kernel) (by decide +kernel) (by simp) fun p hp => by
    rcases List.mem_cons.mp hp with rfl | hp
    · refine tl_join_free (by decide +kernel) fun p hp => ?_
      simp only [List.mem_cons, List.not_mem_nil, or_false] at hp
      rcases hp with rfl | rfl
      · decide +kernel
      · exact numS_free (by decide)
    · obtain ⟨s, _, rfl⟩ := List.mem_map.mp hp
      exact tl_join_free (by decide +kernel) fun p hp => (words_free s p hp).2
theorem v_split {a b : Str} (h : (b.length == 0) = false) (h2 : a.length + 2 ≤ sizeLine) : D.split1 (.str a) (.str b) = .ok (.lst ((Txt.split a b).map D.str)) := by
  show (if (b.length == 0) = false ∧ a.length + 2 ≤ sizeLine then Res.ok (D.lst ((Txt.split a b).map D.str)) else .stuck) = _
  rw [if_pos ⟨h, h2⟩]
theorem v_asS (a : Str) : asS (.str a) = .ok () := id rfl
theorem allStr_map : ∀ (ys : List Str), D.allStr (ys.map D.str) = some ys
  | [] => rfl
  | y :: ys => by
    show (D.allStr (ys.map D.str)).map (y :: ·) = _
    rw [allStr_map ys]; rfl
theorem v_join (a : Str) (ys : List Str) (h : (ys.map (·.length)).sum + ys.length * a.length ≤ 16777216) : D.join1 (.str a) (.lst (ys.map D.str)) = .ok (.str (Txt.join a ys)) := by
  show D.joinL a _ = _
  unfold D.joinL
  rw [allStr_map]
  dsimp only
  rw [if_pos (by unfold D.joinOk; exact decide_eq_true h)]
end RL

/-! RM14: flows. -/
namespace RL
open PySem L2
def sumR : Nat → (Nat → Int) → Int
  | 0, _ => 0
  | n + 1, f => sumR n f + f n
theorem sumR_congr {f g : Nat → Int} : ∀ {n : Nat}, (∀ k, k < n → f k = g k) → sumR n f = sumR n g
  | 0, _ => rfl
  | n + 1, h => by
    show sumR n f + f n = sumR n g + g n
    rw [sumR_congr fun k hk => h k (by omega), h n (by omega)]
theorem sumR_add {f g : Nat → Int} : ∀ {n : Nat}, sumR n (fun k => f k + g k) = sumR n f + sumR n g
  | 0 => rfl
  | n + 1 => by
    show sumR n (fun k => f k + g k) + (f n + g n) = (sumR n f + f n) + (sumR n g + g n)
    rw [sumR_add]; omega
theorem sumR_zero : ∀ {n : Nat}, sumR n (fun _ => 0) = 0
  | 0 => rfl
  | n + 1 => by
    show sumR n (fun _ => 0) + 0 = 0
    rw [sumR_zero]; rfl
theorem sumR_le {f g : Nat → Int} : ∀ {n : Nat}, (∀ k, k < n → f k ≤ g k) → sumR n f ≤ sumR n g
  | 0, _ => Int.le_refl _
  | n + 1, h => by
    show sumR n f + f n ≤ sumR n g + g n
    have := sumR_le (n := n) fun k hk => h k (by omega)
    have := h n (by omega)
    omega
theorem sumR_upd {f g : Nat → Int} {k : Nat} : ∀ {n : Nat}, k < n → (∀ j, j < n → j ≠ k → f j = g j) → sumR n f = sumR n g + (f k - g k)
  | n + 1, hk, h => by
    show sumR n f + f n = sumR n g + g n + (f k - g k)
    by_cases e : k = n
    · subst e
      rw [sumR_congr fun j hj => h j (by omega) (by omega)]; omega
    · rw [sumR_upd (n := n) (k := k) (by omega) fun j hj ne => h j (by omega) ne, h n (by omega) (fun z => e z.symm)]; omega
theorem sumR_comm {f : Nat → Nat → Int} {m : Nat} : ∀ {n : Nat}, sumR n (fun i => sumR m fun j => f i j) = sumR m fun j => sumR n fun i => f i j
  | 0 => by
    show 0 = sumR m fun j => 0
    rw [sumR_zero]
  | n + 1 => by
    show sumR n (fun i => sumR m fun j => f i j) + sumR m (fun j => f n j) = sumR m fun j => (sumR n (fun i => f i j) + f n j)
    rw [sumR_comm, sumR_add]
theorem sumR_one {x : Int} {a n : Nat} (h : a < n) : sumR n (fun b => if b = a then x else 0) = x := by
  rw [sumR_upd (g := fun _ => 0) h fun j _ ne => if_neg ne, sumR_zero]
  simp
def Sw.isF : Sw → Bool
  | .feed _ => true
  | _ => false
/-- what a switch's flow brings to a bar -/
def con (s : Sw) (x : Int) (b : Nat) : Int := if s.long = true then (if b = s.snd then x else 0) - (if b = s.fst then x else 0) else if s.isF = true then (if b = s.fst then x else 0) else 0
def fat (fl : List Int) (k : Nat) : Int := fl[k]?.getD 0
def net (sws : List Sw) (fl : List Int) (b : Nat) : Int := sumR sws.length fun k => con (swAt sws k) (fat fl k) b
theorem fat_set {fl : List Int} {k j : Nat} {x : Int} (h : k < fl.length) : fat (fl.set k x) j = if j = k then x else fat fl j := by
  unfold fat
  by_cases e : j = k
  · subst e; rw [if_pos rfl, List.getElem?_set_self h]; rfl
  · rw [if_neg e, List.getElem?_set_ne (fun z => e z.symm)]
theorem con_add (s : Sw) (x y : Int) (b : Nat) : con s (x + y) b = con s x b + con s y b := by
  unfold con
  split
  · split <;> split <;> omega
  · split
    · split <;> omega
    · rfl
theorem net_upd {sws : List Sw} {fl : List Int} {k : Nat} {t : Int} (hk : k < sws.length) (hl : fl.length = sws.length) (b : Nat) : net sws (fl.set k (fat fl k + t)) b = net sws fl b + con (swAt sws k) t b := by
  unfold net
  rw [sumR_upd (g := fun j => con (swAt sws j) (fat fl j) b) hk fun j _ ne => by rw [fat_set (by omega), if_neg ne]]
  rw [fat_set (by omega), if_pos rfl, con_add]; omega
/-- a step along a switch from p to b -/
def Stp1 (s : Sw) (p b : Nat) (t : Int) : Prop := s.long = true ∧ ((t = 1 ∧ s.fst = p ∧ s.snd = b) ∨ (t = -1 ∧ s.snd = p ∧ s.fst = b))
theorem con_step {s : Sw} {p b : Nat} {t : Int} (h : Stp1 s p b t) (b' : Nat) : con s t b' = (if b' = b then 1 else 0) - (if b' = p then 1 else 0) := by
  obtain ⟨hl, h⟩ := h
  unfold con
  rw [if_pos hl]
  rcases h with ⟨rfl, rfl, rfl⟩ | ⟨rfl, rfl, rfl⟩
  · rfl
  · split <;> split <;> omega
theorem con_feed {a : Nat} (b' : Nat) : con (.feed a) 1 b' = if b' = a then 1 else 0 := by
  unfold con
  rw [if_neg (by simp [Sw.long])]
  have e : (Sw.feed a).isF = true := id rfl
  rw [if_pos e]
  rfl
def nar (tight : Bool) (s : Sw) : Bool := tight || s.isSp
/-- a flow of ways to a place -/
structure FlS (sws : List Sw) (st : Nat) (tight : Bool) (place : Nat) (fl : List Int) (N : Nat) : Prop where
  len : fl.length = sws.length
  off : ∀ k, k < sws.length → st.testBit k = false → fat fl k = 0
  ear : ∀ k, k < sws.length → (swAt sws k).long = false → (swAt sws k).isF = false → fat fl k = 0
  feed : ∀ k, k < sws.length → (swAt sws k).isF = true → fat fl k = 0 ∨ fat fl k = 1
  nrw : ∀ k, k < sws.length → (swAt sws k).long = true → nar tight (swAt sws k) = true → -1 ≤ fat fl k ∧ fat fl k ≤ 1
  net0 : ∀ b, place.testBit b = false → net sws fl b = 0
  bnd : ∀ k, k < sws.length → -(N : Int) ≤ fat fl k ∧ fat fl k ≤ N
/-- a step by which one more way can go on -/
def Rs (sws : List Sw) (st : Nat) (tight : Bool) (fl : List Int) (p b k : Nat) (t : Int) : Prop :=
  k < sws.length ∧ st.testBit k = true ∧ Stp1 (swAt sws k) p b t ∧ (nar tight (swAt sws k) = true → (t = 1 → fat fl k < 1) ∧ (t = -1 → -1 < fat fl k))
structure Cm where
  bar : Nat
  prev : Option Nat
  num : Nat
  turn : Int
def Cm.val (e : Cm) : D := .tup [match e.prev with
  | none => .non
  | some p => .int (p : Int), .int (e.num : Int), .int e.turn]
def Cm.kv (e : Cm) : Key × D := (.inl (e.bar : Int), e.val)
def BegS (sws : List Sw) (st : Nat) (fl : List Int) (k a : Nat) : Prop := k < sws.length ∧ swAt sws k = .feed a ∧ st.testBit k = true ∧ fat fl k = 0
/-- how an entry was come to -/
def CmOk (sws : List Sw) (st : Nat) (tight : Bool) (place : Nat) (fl : List Int) (L : List Cm) (i : Nat) (e : Cm) : Prop := match e.prev with
  | none => BegS sws st fl e.num e.bar ∧ e.turn = 1
  | some p => (∃ j, j < i ∧ ∃ e', L[j]? = some e' ∧ e'.bar = p) ∧ place.testBit p = false ∧ Rs sws st tight fl p e.bar e.num e.turn
structure CamS (sws : List Sw) (st : Nat) (tight : Bool) (place : Nat) (fl : List Int) (n : Nat) (L : List Cm) (at_ : Nat) : Prop where
  nd : (L.map Cm.bar).Nodup
  lt : ∀ e ∈ L, e.bar < n
  ok : ∀ i e, L[i]? = some e → CmOk sws st tight place fl L i e
  beg : ∀ k a, BegS sws st fl k a → ∃ e ∈ L, e.bar = a
  done : ∀ i e, L[i]? = some e → i < at_ → place.testBit e.bar = false → ∀ b k t, Rs sws st tight fl e.bar b k t → ∃ e' ∈ L, e'.bar = b
/-- the number of feeds by which ways come -/
def valF (sws : List Sw) (fl : List Int) : Int := sumR sws.length fun k => if (swAt sws k).isF = true then fat fl k else 0
def isL : Sw → Bool
  | .feed _ => true
  | .sp _ _ => true
  | _ => false
/-- a lock that parts R from what is not in R -/
def lockB (R : Nat → Bool) (s : Sw) : Bool := if s.isF = true then !R s.fst else s.isSp && (R s.fst != R s.snd)
theorem snd_of {s : Sw} (h : s.long = false) : s.snd = s.fst := by cases s <;> first | rfl | cases h
theorem isF_long {s : Sw} (h : s.isF = true) : s.long = false := by cases s <;> first | rfl | cases h
/-- what comes into the bars of a set -/
theorem con_sum {s : Sw} {x : Int} {n : Nat} (R : Nat → Bool) (h1 : s.fst < n) (h2 : s.snd < n) :
    sumR n (fun b => if R b = true then con s x b else 0) = if s.long = true then (if R s.snd = true then x else 0) - (if R s.fst = true then x else 0) else if s.isF = true then (if R s.fst = true then x else 0) else 0 := by
  have one : ∀ (a : Nat), a < n → ∀ y : Int, sumR n (fun b => if R b = true then (if b = a then y else 0) else 0) = if R a = true then y else 0 := fun a ha y => by
    rw [← sumR_one (x := if R a = true then y else 0) ha]
    refine sumR_congr fun b _ => ?_
    by_cases e : b = a
    · subst e; simp
    · simp [e]
  unfold con
  by_cases hl : s.long = true
  · simp only [if_pos hl]
    have e : ∀ b, (if R b = true then (if b = s.snd then x else 0) - (if b = s.fst then x else 0) else 0) = (if R b = true then (if b = s.snd then x else 0) else 0) + (if R b = true then (if b = s.fst then -x else 0) else 0) := fun b => by
      split
      · split <;> split <;> omega
      · rfl
    rw [sumR_congr fun b _ => e b, sumR_add, one _ h2, one _ h1]
    split <;> split <;> omega
  · simp only [if_neg hl]
    by_cases hf : s.isF = true
    · simp only [if_pos hf]
      exact one _ h1 x
    · simp only [if_neg hf]
      rw [sumR_congr (g := fun _ => 0) fun b _ => by split <;> rfl, sumR_zero]
theorem net_sum {sws : List Sw} {fl : List Int} {n : Nat} (R : Nat → Bool) (ho : ∀ s ∈ sws, s.Ok n) :
    sumR n (fun b => if R b = true then net sws fl b else 0) = sumR sws.length fun k => if (swAt sws k).long = true then (if R (swAt sws k).snd = true then fat fl k else 0) - (if R (swAt sws k).fst = true then fat fl k else 0) else if (swAt sws k).isF = true then (if R (swAt sws k).fst = true then fat fl k else 0) else 0 := by
  have e : ∀ b, (if R b = true then net sws fl b else 0) = sumR sws.length fun k => if R b = true then con (swAt sws k) (fat fl k) b else 0 := fun b => by
    by_cases z : R b = true
    · simp only [if_pos z]; rfl
    · simp only [if_neg z]; rw [sumR_zero]
  rw [sumR_congr fun b _ => e b, sumR_comm]
  refine sumR_congr fun k hk => ?_
  have := ok_at hk ho
  exact con_sum R (Sw.fst_lt this) (Sw.snd_lt this)
/-- no more ways than locks: R closed but for the locks X, without bars of the place -/
theorem val_le {sws : List Sw} {st place n N : Nat} {tight : Bool} {fl : List Int} (F : FlS sws st tight place fl N) (ho : ∀ s ∈ sws, s.Ok n) (R : Nat → Bool) (hR : ∀ b, R b = true → place.testBit b = false) (X : Nat → Bool)
    (hf : ∀ k, k < sws.length → st.testBit k = true → X k = false → (swAt sws k).isF = true → R (swAt sws k).fst = true)
    (hj : ∀ k, k < sws.length → st.testBit k = true → X k = false → (swAt sws k).long = true → R (swAt sws k).fst = R (swAt sws k).snd)
    (hx : ∀ k, k < sws.length → X k = true → (swAt sws k).long = true → nar tight (swAt sws k) = true) :
    valF sws fl ≤ sumR sws.length fun k => if X k = true then 1 else 0 := by
  have h0 : sumR n (fun b => if R b = true then net sws fl b else 0) = 0 := by
    rw [sumR_congr (g := fun _ => 0) fun b _ => by
      by_cases z : R b = true
      · rw [if_pos z, F.net0 b (hR b z)]
      · rw [if_neg z], sumR_zero]
  rw [net_sum R ho] at h0
  have h1 : valF sws fl ≤ (sumR sws.length fun k => if (swAt sws k).long = true then (if R (swAt sws k).snd = true then fat fl k else 0) - (if R (swAt sws k).fst = true then fat fl k else 0) else if (swAt sws k).isF = true then (if R (swAt sws k).fst = true then fat fl k else 0) else 0) + sumR sws.length fun k => if X k = true then 1 else 0 := by
    rw [← sumR_add]
    refine sumR_le fun k hk => ?_
    by_cases hs : st.testBit k = true
    · by_cases hX : X k = true
      · rw [if_pos hX]
        by_cases hl : (swAt sws k).long = true
        · have hn : (swAt sws k).isF = false := by
            cases q : (swAt sws k).isF with
            | false => rfl
            | true => rw [isF_long q] at hl; cases hl
          rw [if_pos hl, if_neg (by rw [hn]; decide)]
          obtain ⟨a1, a2⟩ := F.nrw k hk hl (hx k hk hX hl)
          split <;> split <;> omega
        · rw [if_neg hl]
          by_cases hF : (swAt sws k).isF = true
          · rw [if_pos hF, if_pos hF]
            rcases F.feed k hk hF with z | z <;> rw [z] <;> split <;> omega
          · rw [if_neg hF, if_neg hF]; omega
      · have hX := Bool.eq_false_iff.mpr hX
        rw [hX]
        by_cases hl : (swAt sws k).long = true
        · have hn : (swAt sws k).isF = false := by
            cases q : (swAt sws k).isF with
            | false => rfl
            | true => rw [isF_long q] at hl; cases hl
          rw [if_pos hl, if_neg (by rw [hn]; decide), hj k hk hs hX hl]
          split <;> simp
        · rw [if_neg hl]
          by_cases hF : (swAt sws k).isF = true
          · rw [if_pos hF, if_pos hF, if_pos (hf k hk hs hX hF)]; simp
          · rw [if_neg hF, if_neg hF]; simp
    · have z := F.off k hk (Bool.eq_false_iff.mpr hs)
      rw [z]
      have hz : (0 : Int) ≤ if X k = true then 1 else 0 := by split <;> decide
      generalize (if X k = true then (1 : Int) else 0) = y at hz ⊢
      split <;> (try split) <;> (try split) <;> omega
  omega
/-- at the end there are as many locks as ways -/
theorem val_eq {sws : List Sw} {st place n N : Nat} {tight : Bool} {fl : List Int} (F : FlS sws st tight place fl N) (ho : ∀ s ∈ sws, s.Ok n) (R : Nat → Bool) (hR : ∀ b, R b = true → place.testBit b = false)
    (hf : ∀ k a, BegS sws st fl k a → R a = true) (hj : ∀ p b k t, R p = true → Rs sws st tight fl p b k t → R b = true) (X : Nat → Bool)
    (hX : ∀ k, k < sws.length → X k = (st.testBit k && (if (swAt sws k).isF = true then !R (swAt sws k).fst else (swAt sws k).long && (R (swAt sws k).fst != R (swAt sws k).snd)))) :
    valF sws fl = sumR sws.length fun k => if X k = true then 1 else 0 := by
  have h0 : sumR n (fun b => if R b = true then net sws fl b else 0) = 0 := by
    rw [sumR_congr (g := fun _ => 0) fun b _ => by
      by_cases z : R b = true
      · rw [if_pos z, F.net0 b (hR b z)]
      · rw [if_neg z], sumR_zero]
  rw [net_sum R ho] at h0
  have h1 : valF sws fl = (sumR sws.length fun k => if (swAt sws k).long = true then (if R (swAt sws k).snd = true then fat fl k else 0) - (if R (swAt sws k).fst = true then fat fl k else 0) else if (swAt sws k).isF = true then (if R (swAt sws k).fst = true then fat fl k else 0) else 0) + sumR sws.length fun k => if X k = true then 1 else 0 := by
    rw [← sumR_add]
    refine sumR_congr fun k hk => ?_
    rw [hX k hk]
    by_cases hs : st.testBit k = true
    · rw [hs, Bool.true_and]
      by_cases hl : (swAt sws k).long = true
      · have hn : (swAt sws k).isF = false := by
          cases q : (swAt sws k).isF with
          | false => rfl
          | true => rw [isF_long q] at hl; cases hl
        rw [if_pos hl, hn]
        simp only [Bool.false_eq_true, if_false, hl, Bool.true_and]
        -- crossing switches carry one unit out of R
        have fwd : R (swAt sws k).fst = true → R (swAt sws k).snd = false → fat fl k = 1 := fun z1 z2 => by
          refine Decidable.byContradiction fun ne => ?_
          have : Rs sws st tight fl (swAt sws k).fst (swAt sws k).snd k 1 := ⟨hk, hs, ⟨hl, .inl ⟨rfl, rfl, rfl⟩⟩, fun hn => ⟨fun _ => by have := F.nrw k hk hl hn; omega, fun z => absurd z (by decide)⟩⟩
          rw [hj _ _ _ _ z1 this] at z2; cases z2
        have bwd : R (swAt sws k).fst = false → R (swAt sws k).snd = true → fat fl k = -1 := fun z1 z2 => by
          refine Decidable.byContradiction fun ne => ?_
          have : Rs sws st tight fl (swAt sws k).snd (swAt sws k).fst k (-1) := ⟨hk, hs, ⟨hl, .inr ⟨rfl, rfl, rfl⟩⟩, fun hn => ⟨fun z => absurd z (by decide), fun _ => by have := F.nrw k hk hl hn; omega⟩⟩
          rw [hj _ _ _ _ z2 this] at z1; cases z1
        cases q1 : R (swAt sws k).fst <;> cases q2 : R (swAt sws k).snd
        · simp
        · rw [bwd q1 q2]; simp
        · rw [fwd q1 q2]; simp
        · simp
      · have hl := Bool.eq_false_iff.mpr hl
        rw [hl]
        simp only [Bool.false_eq_true, if_false]
        by_cases hF : (swAt sws k).isF = true
        · simp only [hF, if_true]
          obtain ⟨a, ea⟩ : ∃ a, swAt sws k = .feed a := by
            revert hF
            cases swAt sws k <;> intro hF <;> first | exact ⟨_, rfl⟩ | cases hF
          have e1 : (swAt sws k).fst = a := by rw [ea]; rfl
          rw [e1]
          cases q : R a with
          | true => simp
          | false =>
            rcases F.feed k hk hF with z | z
            · rw [hf k a ⟨hk, ea, hs, z⟩] at q; cases q
            · rw [z]; simp
        · have hF := Bool.eq_false_iff.mpr hF
          simp [hF]
    · have hs := Bool.eq_false_iff.mpr hs
      have z := F.off k hk hs
      rw [z, hs]
      simp
  omega
end RL

/-! RM15: dicts by keys; lists of whole numbers; evaluating what RL35-RL37 add. -/
namespace RL
open PySem L2
section
variable {α : Type} {key : α → Nat} {val : α → D}
def gkv (key : α → Nat) (val : α → D) (a : α) : Key × D := (.inl (key a : Int), val a)
theorem look_g : ∀ {L : List α} {t : Nat}, (L.map key).Nodup → ∀ e ∈ L, key e = t → D.look (L.map (gkv key val)) (Sum.inl (t : Int) : Key) = some (val e)
  | [], _, _, _, h, _ => nomatch h
  | x :: L, t, nd, e, he, het => by
    rw [List.map_cons, List.nodup_cons] at nd
    rw [List.map_cons]
    unfold D.look
    rcases List.mem_cons.mp he with rfl | he
    · subst het
      exact if_pos rfl
    · unfold gkv
      rw [if_neg (fun z => by
        have z : (key x : Int) = (t : Int) := Sum.inl.inj z
        have : key x = key e := by omega
        exact nd.1 (this ▸ List.mem_map.mpr ⟨e, he, rfl⟩))]
      exact look_g nd.2 e he het
theorem look_g_none : ∀ {L : List α} {t : Nat}, t ∉ L.map key → D.look (L.map (gkv key val)) (Sum.inl (t : Int) : Key) = none
  | [], _, _ => rfl
  | x :: L, t, h => by
    rw [List.map_cons] at h ⊢
    unfold D.look gkv
    rw [if_neg (fun z => h (by
      have z : (key x : Int) = (t : Int) := Sum.inl.inj z
      have : t = key x := by omega
      rw [this]; exact List.mem_cons_self))]
    exact look_g_none fun z => h (List.mem_cons_of_mem _ z)
theorem look_g_some {L : List α} {t : Nat} (nd : (L.map key).Nodup) : (D.look (L.map (gkv key val)) (Sum.inl (t : Int) : Key)).isSome = decide (t ∈ L.map key) := by
  by_cases h : t ∈ L.map key
  · obtain ⟨e, he, het⟩ := List.mem_map.mp h
    rw [look_g nd e he het, decide_eq_true h]; rfl
  · rw [look_g_none h, decide_eq_false h]; rfl
theorem v_ninG {L : List α} {t : Nat} (nd : (L.map key).Nodup) : D.nin (.int (t : Nat)) (.dic (L.map (gkv key val))) = .ok (.bl (!decide (t ∈ L.map key))) := by
  rw [← look_g_some (val := val) nd]; rfl
theorem v_innG {L : List α} {t : Nat} (nd : (L.map key).Nodup) : D.inn (.int (t : Nat)) (.dic (L.map (gkv key val))) = .ok (.bl (decide (t ∈ L.map key))) := by
  rw [← look_g_some (val := val) nd]; rfl
theorem v_ixG {L : List α} {e : α} (nd : (L.map key).Nodup) (he : e ∈ L) : D.ix (.dic (L.map (gkv key val))) (.int (key e : Nat)) = .ok (val e) := by
  have e1 : D.ix (.dic (L.map (gkv key val))) (.int (key e : Int)) = .ofOpt (D.look (L.map (gkv key val)) (Sum.inl (key e : Int) : Key)) := rfl
  rw [e1, look_g nd e he rfl]; rfl
theorem setDic_g {L : List α} {t : Nat} {d : D} (h : t ∉ L.map key) (hl : L.length < 16777216) : setDic (L.map (gkv key val)) (.int (t : Nat)) d = .ok (L.map (gkv key val) ++ [(.inl (t : Int), d)]) := by
  have e0 : setDic (L.map (gkv key val)) (.int (t : Nat)) d = if (L.map (gkv key val)).length < sizeLine then .ok (putKD (L.map (gkv key val)) (.inl (t : Int)) d) else .stuck := rfl
  rw [e0, if_pos (by rw [List.length_map, sizeLine_val]; exact hl)]
  unfold putKD
  rw [if_neg]
  intro z
  obtain ⟨kv, hkv, hz⟩ := List.any_eq_true.mp z
  obtain ⟨e, he, rfl⟩ := List.mem_map.mp hkv
  have hz : (Sum.inl (key e : Int) : Key) = .inl (t : Int) := of_decide_eq_true hz
  have hz : (key e : Int) = (t : Int) := Sum.inl.inj hz
  have : t = key e := by omega
  exact h (this ▸ List.mem_map.mpr ⟨e, he, rfl⟩)
end
theorem Cm.kv_eq : Cm.kv = gkv Cm.bar Cm.val := rfl
/-- a list of whole numbers -/
def iL (fl : List Int) : List D := fl.map D.int
theorem iL_len (fl : List Int) : (iL fl).length = fl.length := by simp [iL]
theorem fat_get {fl : List Int} {k : Nat} (h : k < fl.length) : fl[k]? = some (fat fl k) := by
  unfold fat
  rw [List.getElem?_eq_getElem h]; rfl
theorem ix_iL {fl : List Int} {k : Nat} (h : k < fl.length) : D.ix (.lst (iL fl)) (.int (k : Int)) = .ok (.int (fat fl k)) := by
  rw [v_ixL, atI_nat]
  unfold iL
  rw [List.getElem?_map, fat_get h]; rfl
theorem ixL_iL {fl : List Int} {k : Nat} (h : k < fl.length) : ixL (iL fl) (.int (k : Int)) = .ok (.int (fat fl k)) := by
  show Res.ofOpt (atI (iL fl) (k : Int)) = _
  rw [atI_nat]
  unfold iL
  rw [List.getElem?_map, fat_get h]; rfl
theorem setL_iL {fl : List Int} {k : Nat} {x : Int} (h : k < fl.length) : setL (iL fl) (.int (k : Int)) (.int x) = .ok (iL (fl.set k x)) := by
  unfold setL
  dsimp only
  rw [iL_len, ixN_nat h]
  dsimp only
  unfold iL
  rw [List.map_set]
theorem v_noLD {d : D} (h : d.noL = true) : noLD d = .ok d := if_pos h
theorem v_flatsD {l : List D} (h : l.all D.flat = true) : flatsD (.lst l) = .ok (.lst l) := if_pos h
theorem v_asDicR (l : List (Key × D)) : asDicR (.dic l) = .ok l := id rfl
theorem v_orP {α : Type} (m : List D → D → Res α) (l : List D) (b : D) : orP m (.tup [.lst l, b]) = m l b := id rfl
theorem v_dl1 {γ : Type} (l : List D) (c : γ) : dl1 (l, c) = (.lst l, c) := id rfl
theorem v_tp2 {γ : Type} (d e : D) (c : γ) : tp2 d (e, c) = (.tup [d, e], c) := id rfl
theorem v_uL {γ α : Type} (mr : List D → γ → Res α) (l : List D) (c : γ) : uL mr (l, c) = mr l c := id rfl
theorem v_uT {τ β κ γ : Type} (d : D) (fc : γ → κ) (l : List D) (c : γ) : (uT d fc (l, c) : Res (Fl τ β κ)) = .ok (.rt (.tup [d, .lst l]) (fc c)) := id rfl
theorem v_isLs (l : List D) : isLs (.lst l) = .ok () := id rfl
theorem noLk_of : ∀ {l : List (Key × D)}, (∀ kv ∈ l, kv.2.noL = true) → D.noLk l = true
  | [], _ => rfl
  | (k, d) :: l, h => by
    show (D.noL d && D.noLk l) = true
    rw [noLk_of fun kv hk => h kv (List.mem_cons_of_mem _ hk)]
    have := h (k, d) List.mem_cons_self
    simpa using this
theorem Cm.val_noL (e : Cm) : e.val.noL = true := by
  unfold Cm.val
  cases e.prev <;> rfl
theorem cm_noL (L : List Cm) : (D.dic (L.map (gkv Cm.bar Cm.val))).noL = true := by
  show D.noLk _ = true
  refine noLk_of fun kv hk => ?_
  obtain ⟨e, _, rfl⟩ := List.mem_map.mp hk
  exact Cm.val_noL e
/-- compM over items that all tell something -/
theorem compM_all {X γ : Type} {f : D → γ → Res (Option D × γ)} (ψ : X → D) (I : Nat → List D → γ → Prop) (xs : List X) : ∀ (i : Nat) (acc : List D) (c : γ), i + (xs.drop i).length = xs.length → I i acc c → acc.length + (xs.drop i).length < 16777216 →
    (∀ i (h : i < xs.length) acc c, I i acc c → ∃ d c', f (ψ xs[i]) c = .ok (some d, c') ∧ I (i + 1) (acc ++ [d]) c') → ∃ r c', compM ((xs.drop i).map ψ) acc c f = .ok (r, c') ∧ I xs.length r c' := by
  intro i acc c hi hI hl hs
  generalize hn : (xs.drop i).length = n at hi hl
  induction n generalizing i acc c with
  | zero =>
    have e : xs.drop i = [] := List.length_eq_zero_iff.mp hn
    rw [e]
    refine ⟨acc, c, rfl, ?_⟩
    have : i = xs.length := by omega
    rw [← this]; exact hI
  | succ n ih =>
    have hlt : i < xs.length := by
      rw [List.length_drop] at hn; omega
    obtain ⟨d, c', h1, h2⟩ := hs i hlt acc c hI
    rw [List.drop_eq_getElem_cons hlt, List.map_cons]
    obtain ⟨r, c2, h3, h4⟩ := ih (i + 1) (acc ++ [d]) c' h2 (by rw [List.length_drop]; rw [List.length_drop] at hn; omega) (by omega) (by rw [List.length_append]; simp; omega)
    refine ⟨r, c2, ?_, h4⟩
    unfold compM
    rw [h1]
    dsimp only
    rw [if_pos (by rw [sizeLine_val]; omega)]
    exact h3
end RL

/-! RM16: one more way. -/
namespace RL
open PySem L2
theorem val_upd {sws : List Sw} {fl : List Int} {k : Nat} {t : Int} (hk : k < sws.length) (hl : fl.length = sws.length) : valF sws (fl.set k (fat fl k + t)) = valF sws fl + if (swAt sws k).isF = true then t else 0 := by
  unfold valF
  rw [sumR_upd (g := fun j => if (swAt sws j).isF = true then fat fl j else 0) hk fun j _ ne => by rw [fat_set (by omega), if_neg ne]]
  rw [fat_set (by omega), if_pos rfl]
  split <;> omega
theorem val_le_m {sws : List Sw} {st place N : Nat} {tight : Bool} {fl : List Int} (F : FlS sws st tight place fl N) : 0 ≤ valF sws fl ∧ valF sws fl ≤ sws.length := by
  have one : ∀ n : Nat, sumR n (fun _ => (1 : Int)) = n := fun n => by
    induction n with
    | zero => rfl
    | succ n ih => show sumR n (fun _ => 1) + 1 = ((n + 1 : Nat) : Int); rw [ih]; omega
  have key : ∀ k, k < sws.length → 0 ≤ (if (swAt sws k).isF = true then fat fl k else 0) ∧ (if (swAt sws k).isF = true then fat fl k else 0) ≤ 1 := fun k hk => by
    split
    · rename_i h
      rcases F.feed k hk h with z | z <;> omega
    · omega
  constructor
  · rw [← sumR_zero (n := sws.length)]
    exact sumR_le fun k hk => (key k hk).1
  · rw [← one sws.length]
    exact sumR_le fun k hk => (key k hk).2
/-- midway back along a new way -/
structure MidS (sws : List Sw) (st : Nat) (tight : Bool) (place : Nat) (fl : List Int) (N n : Nat) (L : List Cm) (g : Nat) (i : Nat) (e : Cm) (fl' : List Int) : Prop where
  len : fl'.length = sws.length
  net1 : ∀ b, net sws fl' b = net sws fl b + (if b = g then 1 else 0) - (if b = e.bar then 1 else 0)
  chg : ∀ k, k < sws.length → fat fl' k ≠ fat fl k → (swAt sws k).long = true ∧ st.testBit k = true ∧ ∃ j e', i < j ∧ L[j]? = some e' ∧ ((swAt sws k).fst = e'.bar ∨ (swAt sws k).snd = e'.bar)
  nrw : ∀ k, k < sws.length → (swAt sws k).long = true → nar tight (swAt sws k) = true → -1 ≤ fat fl' k ∧ fat fl' k ≤ 1
  bnd : ∀ k, k < sws.length → -((N + 1 : Nat) : Int) ≤ fat fl' k ∧ fat fl' k ≤ ((N + 1 : Nat) : Int)
theorem bar_inj {L : List Cm} (nd : (L.map Cm.bar).Nodup) {i j : Nat} {e e' : Cm} (h1 : L[i]? = some e) (h2 : L[j]? = some e') (h : e.bar = e'.bar) : i = j := by
  obtain ⟨l1, a1⟩ := List.getElem?_eq_some_iff.mp h1
  obtain ⟨l2, a2⟩ := List.getElem?_eq_some_iff.mp h2
  have e1 : (L.map Cm.bar)[i]'(by rw [List.length_map]; exact l1) = (L.map Cm.bar)[j]'(by rw [List.length_map]; exact l2) := by
    rw [List.getElem_map, List.getElem_map, a1, a2, h]
  exact (List.getElem_inj nd).mp e1
theorem MidS.same {sws : List Sw} {st place N n g i : Nat} {tight : Bool} {fl fl' : List Int} {L : List Cm} {e : Cm} (M : MidS sws st tight place fl N n L g i e fl') (nd : (L.map Cm.bar).Nodup) {k j : Nat} {e' : Cm} (hk : k < sws.length) (hj : j ≤ i) (he' : L[j]? = some e') (he : L[i]? = some e)
    (h : (swAt sws k).fst = e.bar ∧ (swAt sws k).snd = e'.bar ∨ (swAt sws k).fst = e'.bar ∧ (swAt sws k).snd = e.bar) : fat fl' k = fat fl k := by
  refine Decidable.byContradiction fun ne => ?_
  obtain ⟨_, _, j2, e2, h1, h2, h3⟩ := M.chg k hk ne
  rcases h with ⟨a, b⟩ | ⟨a, b⟩ <;> rcases h3 with c | c
  · have := bar_inj nd he h2 (a.symm.trans c); omega
  · have := bar_inj nd he' h2 (b.symm.trans c); omega
  · have := bar_inj nd he' h2 (a.symm.trans c); omega
  · have := bar_inj nd he h2 (b.symm.trans c); omega
def Cm.prevD (e : Cm) : D := match e.prev with
  | none => .non
  | some p => .int (p : Int)
theorem aug {β : Type} {sws : List Sw} {st place N n g : Nat} {tight : Bool} {fl : List Int} {L : List Cm} (F : FlS sws st tight place fl N) (C : CamS sws st tight place fl n L L.length) (hg : place.testBit g = true)
    {c : D × List D → Res Bool} {f : D × List D → Res (Fl (D × List D) (D × List D) Unit)} (hc1 : ∀ (b : Nat) l, c (.int (b : Int), l) = .ok true) (hc0 : ∀ l, c (.non, l) = .ok false)
    (hf : ∀ e ∈ L, ∀ fl' : List Int, fl'.length = sws.length → e.num < sws.length → f (.int (e.bar : Int), iL fl') = .ok (.nx (e.prevD, iL (fl'.set e.num (fat fl' e.num + e.turn))))) :
    ∀ (i : Nat) (e : Cm) (fl' : List Int) (fu : Nat), L[i]? = some e → MidS sws st tight place fl N n L g i e fl' → i + 1 < fu → ∃ fl2, whl (β := β) fu (.int (e.bar : Int), iL fl') c f = .ok (.nx (.non, iL fl2)) ∧ FlS sws st tight place fl2 (N + 1) ∧ valF sws fl2 = valF sws fl + 1 := by
  intro i
  induction i using Nat.strongRecOn with
  | ind i ih =>
    intro e fl' fu he M hfu
    obtain ⟨fu', rfl⟩ : ∃ k, fu = k + 1 := ⟨fu - 1, by omega⟩
    have hmem : e ∈ L := List.mem_of_getElem? he
    have ok := C.ok i e he
    unfold whl
    rw [hc1, Res.ok_bind, if_pos rfl]
    unfold CmOk at ok
    cases q : e.prev with
    | none =>
      rw [q] at ok
      obtain ⟨⟨hk, hs, hst, h0⟩, ht⟩ := ok
      have hF : (swAt sws e.num).isF = true := by rw [hs]; rfl
      have hL : (swAt sws e.num).long = false := isF_long hF
      have same : fat fl' e.num = fat fl e.num := Decidable.byContradiction fun ne => by
        have := (M.chg e.num hk ne).1
        rw [hL] at this; cases this
      rw [hf e hmem fl' M.len hk]
      have epd : e.prevD = .non := by unfold Cm.prevD; rw [q]
      rw [epd]
      obtain ⟨fu2, rfl⟩ : ∃ k, fu' = k + 1 := ⟨fu' - 1, by omega⟩
      refine ⟨fl'.set e.num (fat fl' e.num + e.turn), ?_, ?_, ?_⟩
      · dsimp only
        unfold whl
        rw [hc0, Res.ok_bind, if_neg Bool.false_ne_true]
      · have lset : e.num < fl'.length := by rw [M.len]; exact hk
        have keep : ∀ k, k < sws.length → k ≠ e.num → fat (fl'.set e.num (fat fl' e.num + e.turn)) k = fat fl' k := fun k _ ne => by rw [fat_set lset, if_neg ne]
        have at1 : fat (fl'.set e.num (fat fl' e.num + e.turn)) e.num = 1 := by rw [fat_set lset, if_pos rfl, same, h0, ht]; rfl
        have unl : ∀ k, k < sws.length → (swAt sws k).long = false → fat fl' k = fat fl k := fun k hk' hl' => Decidable.byContradiction fun ne => by
          have := (M.chg k hk' ne).1
          rw [hl'] at this; cases this
        refine ⟨by rw [List.length_set]; exact M.len, fun k hk' hs' => ?_, fun k hk' h1 h2 => ?_, fun k hk' h1 => ?_, fun k hk' h1 h2 => ?_, fun b hb => ?_, fun k hk' => ?_⟩
        · have ne : k ≠ e.num := fun z => by subst z; rw [hst] at hs'; cases hs'
          rw [keep k hk' ne, ← F.off k hk' hs']
          exact Decidable.byContradiction fun ne2 => by
            have := (M.chg k hk' ne2).2.1
            rw [hs'] at this; cases this
        · have ne : k ≠ e.num := fun z => by subst z; rw [hF] at h2; cases h2
          rw [keep k hk' ne, unl k hk' h1, F.ear k hk' h1 h2]
        · by_cases ne : k = e.num
          · subst ne; exact .inr at1
          · rw [keep k hk' ne, unl k hk' (isF_long h1)]
            exact F.feed k hk' h1
        · have ne : k ≠ e.num := fun z => by subst z; rw [hL] at h1; cases h1
          rw [keep k hk' ne]
          exact M.nrw k hk' h1 h2
        · have hbg : ¬ b = g := fun z => by subst z; rw [hg] at hb; cases hb
          rw [net_upd hk M.len, M.net1, F.net0 b hb, if_neg hbg, hs, ht, con_feed]
          omega
        · by_cases ne : k = e.num
          · subst ne
            rw [at1]
            omega
          · rw [keep k hk' ne]
            exact M.bnd k hk'
      · have lset : e.num < fl'.length := by rw [M.len]; exact hk
        rw [val_upd hk M.len, if_pos hF, ht]
        have : valF sws fl' = valF sws fl := by
          unfold valF
          refine sumR_congr fun k hk' => ?_
          split
          · rename_i h
            exact Decidable.byContradiction fun ne => by
              have := (M.chg k hk' ne).1
              rw [isF_long h] at this; cases this
          · rfl
        rw [this]
    | some p =>
      rw [q] at ok
      obtain ⟨⟨j, hj, e', he', hp⟩, hpl, hk, hst, hstep, hnar⟩ := ok
      subst hp
      have ends : (swAt sws e.num).fst = e.bar ∧ (swAt sws e.num).snd = e'.bar ∨ (swAt sws e.num).fst = e'.bar ∧ (swAt sws e.num).snd = e.bar := by
        rcases hstep.2 with ⟨_, a, b⟩ | ⟨_, a, b⟩
        · exact .inr ⟨a, b⟩
        · exact .inl ⟨b, a⟩
      have same := M.same C.nd hk (Nat.le_of_lt hj) he' he ends
      rw [hf e hmem fl' M.len hk]
      have epd : e.prevD = .int (e'.bar : Int) := by unfold Cm.prevD; rw [q]
      rw [epd]
      dsimp only
      have lset : e.num < fl'.length := by rw [M.len]; exact hk
      have tt : e.turn = 1 ∨ e.turn = -1 := by rcases hstep.2 with ⟨a, _, _⟩ | ⟨a, _, _⟩ <;> simp [a]
      refine ih j hj e' _ fu' he' ⟨by rw [List.length_set]; exact M.len, fun b => ?_, fun k hk' ne => ?_, fun k hk' h1 h2 => ?_, fun k hk' => ?_⟩ (by omega)
      · rw [net_upd hk M.len, M.net1, con_step hstep]
        omega
      · by_cases z : k = e.num
        · subst z
          exact ⟨hstep.1, hst, i, e, hj, he, ends.elim (fun y => .inl y.1) fun y => .inr y.2⟩
        · rw [fat_set lset, if_neg z] at ne
          obtain ⟨a1, a2, j2, e2, a3, a4, a5⟩ := M.chg k hk' ne
          exact ⟨a1, a2, j2, e2, by omega, a4, a5⟩
      · by_cases z : k = e.num
        · subst z
          rw [fat_set lset, if_pos rfl, same]
          have := F.nrw _ hk' h1 h2
          obtain ⟨b1, b2⟩ := hnar h2
          rcases tt with y | y
          · have := b1 y; omega
          · have := b2 y; omega
        · rw [fat_set lset, if_neg z]
          exact M.nrw k hk' h1 h2
      · by_cases z : k = e.num
        · subst z
          rw [fat_set lset, if_pos rfl, same]
          have := F.bnd _ hk'
          rcases tt with y | y <;> omega
        · rw [fat_set lset, if_neg z]
          exact M.bnd k hk'
theorem flS_zero (sws : List Sw) (st : Nat) (tight : Bool) (place : Nat) : FlS sws st tight place (List.replicate sws.length 0) 0 ∧ valF sws (List.replicate sws.length 0) = 0 := by
  have z : ∀ k, fat (List.replicate sws.length 0) k = 0 := fun k => by
    unfold fat
    rw [List.getElem?_replicate]
    split <;> rfl
  have cz : ∀ s b, con s 0 b = 0 := fun s b => by
    unfold con
    split
    · split <;> split <;> rfl
    · split
      · split <;> rfl
      · rfl
  refine ⟨⟨by simp, fun k _ _ => z k, fun k _ _ _ => z k, fun k _ _ => .inl (z k), fun k _ _ _ => by rw [z]; omega, fun b _ => ?_, fun k _ => by rw [z]; omega⟩, ?_⟩
  · unfold net
    rw [sumR_congr (g := fun _ => 0) fun k _ => by rw [z, cz], sumR_zero]
  · unfold valF
    rw [sumR_congr (g := fun _ => 0) fun k _ => by rw [z]; split <;> rfl, sumR_zero]
end RL

/-! RM17: ways taken out of a flow. -/
namespace RL
open PySem L2
def netL (sws : List Sw) (fl : List Int) (b : Nat) : Int := sumR sws.length fun k => if (swAt sws k).long = true then con (swAt sws k) (fat fl k) b else 0
def cntU (sws : List Sw) (U : Nat → Bool) (b : Nat) : Int := sumR sws.length fun k => if U k = true ∧ (swAt sws k).fst = b then 1 else 0
def absF (fl : List Int) (k : Nat) : Nat := (fat fl k).natAbs
def sumA (sws : List Sw) (fl : List Int) : Int := sumR sws.length fun k => (absF fl k : Int)
theorem cntU_nn (sws : List Sw) (U : Nat → Bool) (b : Nat) : 0 ≤ cntU sws U b := by
  unfold cntU
  have h := sumR_le (n := sws.length) (f := fun _ => 0) (g := fun k => if U k = true ∧ (swAt sws k).fst = b then 1 else 0) fun k _ => by
    split <;> omega
  rw [sumR_zero] at h
  exact h
theorem net_split (sws : List Sw) (fl : List Int) (b : Nat) : net sws fl b = netL sws fl b + sumR sws.length fun k => if (swAt sws k).isF = true then (if b = (swAt sws k).fst then fat fl k else 0) else 0 := by
  unfold net netL
  rw [← sumR_add]
  refine sumR_congr fun k _ => ?_
  unfold con
  by_cases h : (swAt sws k).long = true
  · have hF : (swAt sws k).isF = false := by
      cases q : (swAt sws k).isF with
      | false => rfl
      | true => rw [isF_long q] at h; cases h
    simp only [h, hF, if_true, Bool.false_eq_true, if_false]; omega
  · simp only [h, Bool.false_eq_true, if_false]; omega
theorem netL_upd {sws : List Sw} {fl : List Int} {k : Nat} {t : Int} (hk : k < sws.length) (hl : fl.length = sws.length) (hL : (swAt sws k).long = true) (b : Nat) : netL sws (fl.set k (fat fl k + t)) b = netL sws fl b + con (swAt sws k) t b := by
  unfold netL
  rw [sumR_upd (g := fun j => if (swAt sws j).long = true then con (swAt sws j) (fat fl j) b else 0) hk fun j _ ne => by rw [fat_set (by omega), if_neg ne]]
  rw [fat_set (by omega), if_pos rfl, if_pos hL, if_pos hL, con_add]; omega
theorem sumR_neg {f : Nat → Int} : ∀ {n : Nat}, sumR n f < 0 → ∃ k, k < n ∧ f k < 0
  | 0, h => absurd h (by show ¬ (0 : Int) < 0; omega)
  | n + 1, h => by
    have h : sumR n f + f n < 0 := h
    by_cases z : f n < 0
    · exact ⟨n, by omega, z⟩
    · obtain ⟨k, h1, h2⟩ := sumR_neg (n := n) (f := f) (by omega)
      exact ⟨k, by omega, h2⟩
/-- what is left of a flow, the ways of the feeds U still in it -/
structure DecS (sws : List Sw) (st place : Nat) (fl0 : List Int) (U : Nat → Bool) (fl : List Int) : Prop where
  len : fl.length = sws.length
  sub : ∀ k, k < sws.length → (0 ≤ fat fl k ∧ fat fl k ≤ fat fl0 k) ∨ (fat fl0 k ≤ fat fl k ∧ fat fl k ≤ 0)
  net1 : ∀ b, place.testBit b = false → netL sws fl b = - cntU sws U b
theorem dec_first {sws : List Sw} {st place N : Nat} {tight : Bool} {fl : List Int} (F : FlS sws st tight place fl N) : DecS sws st place fl (fun k => (swAt sws k).isF && decide (fat fl k = 1)) fl := by
  refine ⟨F.len, fun k _ => by omega, fun b hb => ?_⟩
  have h := F.net0 b hb
  rw [net_split] at h
  have e : (sumR sws.length fun k => if (swAt sws k).isF = true then (if b = (swAt sws k).fst then fat fl k else 0) else 0) = cntU sws (fun k => (swAt sws k).isF && decide (fat fl k = 1)) b := by
    unfold cntU
    refine sumR_congr fun k hk => ?_
    show _ = if ((swAt sws k).isF && decide (fat fl k = 1)) = true ∧ (swAt sws k).fst = b then (1 : Int) else 0
    by_cases hF : (swAt sws k).isF = true
    · rw [if_pos hF]
      rcases F.feed k hk hF with z | z
      · rw [z]
        have : ¬ (((swAt sws k).isF && decide ((0 : Int) = 1)) = true ∧ (swAt sws k).fst = b) := by simp
        rw [if_neg this]
        split <;> rfl
      · rw [z, hF]
        by_cases y : b = (swAt sws k).fst
        · subst y; simp
        · have y2 : ¬ (swAt sws k).fst = b := fun q => y q.symm
          simp [y, y2]
    · rw [if_neg hF]
      have hF := Bool.eq_false_iff.mpr hF
      simp [hF]
  omega
/-- a switch joins two bars of a row -/
def Jn (s : Sw) (p b : Nat) : Prop := s.long = true ∧ ((s.fst = p ∧ s.snd = b) ∨ (s.snd = p ∧ s.fst = b))
/-- a row of bars and the switches between -/
structure RowB (sws : List Sw) (st : Nat) (B N : List Nat) : Prop where
  len : B.length = N.length + 1
  nd : B.Nodup
  jn : ∀ i k, N[i]? = some k → k < sws.length ∧ st.testBit k = true ∧ ∃ p b, B[i]? = some p ∧ B[i + 1]? = some b ∧ Jn (swAt sws k) p b
theorem RowB.ndN {sws : List Sw} {st : Nat} {B N : List Nat} (R : RowB sws st B N) : N.Nodup := by
  rw [List.nodup_iff_pairwise_ne, List.pairwise_iff_getElem]
  intro i j hi hj hij e
  obtain ⟨_, _, p, b, h1, h2, _, h3⟩ := R.jn i N[i] (List.getElem?_eq_getElem hi)
  obtain ⟨_, _, p', b', h4, h5, _, h6⟩ := R.jn j N[j] (List.getElem?_eq_getElem hj)
  rw [← e] at h6
  have inj : ∀ {a c x : Nat}, B[a]? = some x → B[c]? = some x → a = c := fun {a c x} y1 y2 => by
    obtain ⟨l1, a1⟩ := List.getElem?_eq_some_iff.mp y1
    obtain ⟨l2, a2⟩ := List.getElem?_eq_some_iff.mp y2
    exact (List.getElem_inj R.nd).mp (a1.trans a2.symm)
  rcases h3 with ⟨a1, a2⟩ | ⟨a1, a2⟩ <;> rcases h6 with ⟨c1, c2⟩ | ⟨c1, c2⟩
  · have : p = p' := a1.symm.trans c1
    subst this
    have := inj h1 h4; omega
  · have e1 : p = b' := a1.symm.trans c2
    have e2 : b = p' := a2.symm.trans c1
    subst e1 e2
    have := inj h1 h5; omega
  · have e1 : p = b' := a1.symm.trans c2
    have e2 : b = p' := a2.symm.trans c1
    subst e1 e2
    have := inj h1 h5; omega
  · have : p = p' := a1.symm.trans c1
    subst this
    have := inj h1 h4; omega
theorem RowB.snoc {sws : List Sw} {st k p c : Nat} {B N : List Nat} (R : RowB sws st (B ++ [p]) N) (hk : k < sws.length) (hs : st.testBit k = true) (hj : Jn (swAt sws k) p c) (hc : c ∉ B ++ [p]) : RowB sws st (B ++ [p] ++ [c]) (N ++ [k]) := by
  have hl := R.len
  rw [List.length_append] at hl
  simp at hl
  refine ⟨by simp; omega, ?_, fun i k' hi => ?_⟩
  · rw [List.nodup_append]
    exact ⟨R.nd, by simp, fun a ha b hb e => by
      rw [List.mem_singleton] at hb
      subst e; subst hb; exact hc ha⟩
  · by_cases h : i < N.length
    · rw [List.getElem?_append_left h] at hi
      obtain ⟨a1, a2, p', b', a3, a4, a5⟩ := R.jn i k' hi
      exact ⟨a1, a2, p', b', by rw [List.getElem?_append_left (by simp; omega)]; exact a3, by rw [List.getElem?_append_left (by simp; omega)]; exact a4, a5⟩
    · have hlt : i < (N ++ [k]).length := (List.getElem?_eq_some_iff.mp hi).1
      rw [List.length_append] at hlt
      simp at hlt
      have e : i = N.length := by omega
      subst e
      rw [List.getElem?_append_right (Nat.le_refl _), Nat.sub_self] at hi
      cases hi
      refine ⟨hk, hs, p, c, ?_, ?_, hj⟩
      · rw [List.getElem?_append_left (by simp; omega), ← hl, List.getElem?_append_right (Nat.le_refl _), Nat.sub_self]; rfl
      · rw [List.getElem?_append_right (by simp; omega)]
        have : N.length + 1 - (B ++ [p]).length = 0 := by simp; omega
        rw [this]; rfl
theorem RowB.cut {sws : List Sw} {st : Nat} {B N : List Nat} (R : RowB sws st B N) {j : Nat} (hj : j < B.length) : RowB sws st (B.take (j + 1)) (N.take j) := by
  have hl := R.len
  refine ⟨by rw [List.length_take, List.length_take]; omega, (List.take_sublist _ _).nodup R.nd, fun i k hi => ?_⟩
  have hij : i < j := by
    have := (List.getElem?_eq_some_iff.mp hi).1
    rw [List.length_take] at this; omega
  rw [List.getElem?_take, if_pos hij] at hi
  obtain ⟨a1, a2, p, b, a3, a4, a5⟩ := R.jn i k hi
  exact ⟨a1, a2, p, b, by rw [List.getElem?_take, if_pos (by omega)]; exact a3, by rw [List.getElem?_take, if_pos (by omega)]; exact a4, a5⟩
/-- a unit goes on from a bar -/
theorem goes_on {sws : List Sw} {n : Nat} {fl : List Int} {cur : Nat} (ho : ∀ s ∈ sws, s.Ok n) (h : netL sws fl cur < 0) : ∃ k, k < sws.length ∧ (swAt sws k).long = true ∧ ((swAt sws k).fst = cur ∧ 0 < fat fl k ∨ (swAt sws k).snd = cur ∧ fat fl k < 0) := by
  obtain ⟨k, hk, hn⟩ := sumR_neg h
  by_cases hl : (swAt sws k).long = true
  · rw [if_pos hl] at hn
    unfold con at hn
    rw [if_pos hl] at hn
    refine ⟨k, hk, hl, ?_⟩
    by_cases h1 : cur = (swAt sws k).snd
    · by_cases h2 : cur = (swAt sws k).fst
      · rw [if_pos h1, if_pos h2] at hn; omega
      · rw [if_pos h1, if_neg h2] at hn
        exact .inr ⟨h1.symm, by omega⟩
    · by_cases h2 : cur = (swAt sws k).fst
      · rw [if_neg h1, if_pos h2] at hn
        exact .inl ⟨h2.symm, by omega⟩
      · rw [if_neg h1, if_neg h2] at hn; omega
  · rw [if_neg hl] at hn; omega
/-- midway along a way -/
structure WtS (sws : List Sw) (st place : Nat) (fl0 flb : List Int) (U : Nat → Bool) (b0 : Nat) (B N : List Nat) (cur : Nat) (fl : List Int) : Prop where
  row : RowB sws st (B ++ [cur]) N
  beg : (B ++ [cur])[0]? = some b0
  len : fl.length = sws.length
  sub : ∀ k, k < sws.length → (0 ≤ fat fl k ∧ fat fl k ≤ fat fl0 k) ∨ (fat fl0 k ≤ fat fl k ∧ fat fl k ≤ 0)
  net1 : ∀ b, place.testBit b = false → netL sws fl b = - cntU sws U b - (if b = cur then 1 else 0)
  use : ∀ k, k < sws.length → absF fl k + (if k ∈ N then 1 else 0) ≤ absF flb k
theorem WtS.step {sws : List Sw} {st place n : Nat} {fl0 flb fl : List Int} {U : Nat → Bool} {b0 cur : Nat} {B N : List Nat} (W : WtS sws st place fl0 flb U b0 B N cur fl) (ho : ∀ s ∈ sws, s.Ok n)
    (off0 : ∀ k, k < sws.length → st.testBit k = false → fat fl0 k = 0) {k c : Nat} {t : Int} (hk : k < sws.length) (hl : (swAt sws k).long = true)
    (h : ((swAt sws k).fst = cur ∧ (swAt sws k).snd = c ∧ 0 < fat fl k ∧ t = -1) ∨ ((swAt sws k).snd = cur ∧ (swAt sws k).fst = c ∧ fat fl k < 0 ∧ t = 1)) :
    st.testBit k = true ∧ Jn (swAt sws k) cur c ∧ sumA sws (fl.set k (fat fl k + t)) < sumA sws fl ∧
    (c ∉ B ++ [cur] → WtS sws st place fl0 flb U b0 (B ++ [cur]) (N ++ [k]) c (fl.set k (fat fl k + t))) ∧
    (∀ j, (B ++ [cur])[j]? = some c → WtS sws st place fl0 flb U b0 ((B ++ [cur]).take j) (N.take j) c (fl.set k (fat fl k + t))) := by
  have lset : k < fl.length := by rw [W.len]; exact hk
  have hb : st.testBit k = true := by
    cases q : st.testBit k with
    | true => rfl
    | false =>
      have z := off0 k hk q
      have := W.sub k hk
      rcases h with ⟨_, _, a, _⟩ | ⟨_, _, a, _⟩ <;> omega
  have hj : Jn (swAt sws k) cur c := ⟨hl, by rcases h with ⟨a, b, _, _⟩ | ⟨a, b, _, _⟩ <;> simp [a, b]⟩
  have stp : Stp1 (swAt sws k) c cur t := ⟨hl, by rcases h with ⟨a, b, _, d⟩ | ⟨a, b, _, d⟩ <;> simp [a, b, d]⟩
  have ab : absF (fl.set k (fat fl k + t)) k + 1 = absF fl k := by
    unfold absF
    rw [fat_set lset, if_pos rfl]
    rcases h with ⟨_, _, a, d⟩ | ⟨_, _, a, d⟩ <;> omega
  have ab2 : ∀ j, j ≠ k → absF (fl.set k (fat fl k + t)) j = absF fl j := fun j ne => by
    unfold absF
    rw [fat_set lset, if_neg ne]
  have sub2 : ∀ j, j < sws.length → (0 ≤ fat (fl.set k (fat fl k + t)) j ∧ fat (fl.set k (fat fl k + t)) j ≤ fat fl0 j) ∨ (fat fl0 j ≤ fat (fl.set k (fat fl k + t)) j ∧ fat (fl.set k (fat fl k + t)) j ≤ 0) := fun j hj' => by
    rw [fat_set lset]
    have := W.sub j hj'
    by_cases e : j = k
    · subst e
      rw [if_pos rfl]
      rcases h with ⟨_, _, a, d⟩ | ⟨_, _, a, d⟩ <;> omega
    · rw [if_neg e]; exact this
  have net2 : ∀ b, place.testBit b = false → netL sws (fl.set k (fat fl k + t)) b = - cntU sws U b - (if b = c then 1 else 0) := fun b hb' => by
    rw [netL_upd hk W.len hl, W.net1 b hb', con_step stp]
    omega
  refine ⟨hb, hj, ?_, fun hc => ⟨W.row.snoc hk hb hj hc, ?_, by rw [List.length_set]; exact W.len, sub2, net2, fun j hj' => ?_⟩, fun j hjc => ?_⟩
  · unfold sumA
    rw [sumR_upd (g := fun j => (absF fl j : Int)) hk fun j _ ne => by rw [ab2 j ne]]
    omega
  · rw [List.getElem?_append_left (by simp)]; exact W.beg
  · have := W.use j hj'
    by_cases e : j = k
    · subst e
      split <;> omega
    · rw [ab2 j e]
      have : (j ∈ N ++ [k]) ↔ j ∈ N := by simp [e]
      simp only [this]
      exact W.use j hj'
  · have hjl : j < (B ++ [cur]).length := (List.getElem?_eq_some_iff.mp hjc).1
    have et : (B ++ [cur]).take j ++ [c] = (B ++ [cur]).take (j + 1) := by
      rw [List.take_succ, hjc]; rfl
    refine ⟨by rw [et]; exact W.row.cut hjl, ?_, by rw [List.length_set]; exact W.len, sub2, net2, fun j' hj' => ?_⟩
    · rw [et, List.getElem?_take, if_pos (by omega)]
      exact W.beg
    · have h1 := W.use j' hj'
      have h2 : (if j' ∈ N.take j then 1 else 0) ≤ (if j' ∈ N then 1 else 0) := by
        by_cases y : j' ∈ N.take j
        · rw [if_pos y, if_pos (List.mem_of_mem_take y)]; exact Nat.le_refl _
        · rw [if_neg y]; exact Nat.zero_le _
      by_cases e : j' = k
      · subst e; omega
      · rw [ab2 j' e]; omega
end RL

namespace RL
open PySem L2
/-! locks and live bars -/
theorem cnt_le {T : List Nat} : ∀ {X : Nat → Bool} {m : Nat}, (∀ k, k < m → X k = true → k ∈ T) → (sumR m fun k => if X k = true then 1 else 0) ≤ (T.length : Int) := by
  induction T with
  | nil =>
    intro X m h
    have : (sumR m fun k => if X k = true then (1 : Int) else 0) = sumR m fun _ => 0 := sumR_congr fun k hk => by
      cases q : X k with
      | false => rfl
      | true => exact absurd (h k hk q) (by simp)
    rw [this, sumR_zero]; simp
  | cons x T ih =>
    intro X m h
    have h1 := ih (X := fun k => X k && !decide (k = x)) (m := m) fun k hk q => by
      have q1 : X k = true := by revert q; cases X k <;> simp
      rcases List.mem_cons.mp (h k hk q1) with z | z
      · simp [z] at q
      · exact z
    have h2 : (sumR m fun k => if X k = true then (1 : Int) else 0) ≤ sumR m fun k => (if (X k && !decide (k = x)) = true then (1 : Int) else 0) + if k = x then 1 else 0 := sumR_le fun k _ => by
      by_cases z : k = x
      · subst z; cases X k <;> simp
      · cases X k <;> simp [z]
    rw [sumR_add] at h2
    have h3 : (sumR m fun k => if k = x then (1 : Int) else 0) ≤ 1 := by
      by_cases z : x < m
      · rw [sumR_one z]; exact Int.le_refl _
      · have : (sumR m fun k => if k = x then (1 : Int) else 0) = sumR m fun _ => 0 := sumR_congr fun k hk => if_neg (by omega)
        rw [this, sumR_zero]; decide
    rw [List.length_cons]
    omega
/-- the mask of some bars -/
def maskR (n : Nat) (R : Nat → Bool) : Nat := (((List.range n).filter R).map fun k => 2 ^ k).sum
theorem maskR_bit (n : Nat) (R : Nat → Bool) (i : Nat) : (maskR n R).testBit i = (decide (i < n) && R i) := by
  unfold maskR
  rw [(sum_mask_up (List.Pairwise.sublist List.filter_sublist List.pairwise_lt_range)).1 i]
  by_cases h : i < n <;> cases q : R i <;> simp [h, q]
theorem and_zero_iff {a b : Nat} : a &&& b = 0 ↔ ∀ i, a.testBit i = true → b.testBit i = false := by
  constructor
  · intro h i hi
    have := congrArg (fun x => x.testBit i) h
    simp only [Nat.testBit_and, Nat.zero_testBit, hi, Bool.true_and] at this
    exact this
  · intro h
    apply Nat.eq_of_testBit_eq
    intro i
    rw [Nat.testBit_and, Nat.zero_testBit]
    cases q : a.testBit i with
    | false => rfl
    | true => rw [h i q]; rfl
theorem fst_ltO {s : Sw} {n : Nat} (h : s.Ok n) : s.fst < n := by
  cases s with
  | feed a => exact h
  | earth a => exact h
  | br a b => exact h.1
  | sp a b => exact h.1
theorem snd_ltO {s : Sw} {n : Nat} (hl : s.long = true) (h : s.Ok n) : s.snd < n := by
  cases s with
  | feed a => cases hl
  | earth a => cases hl
  | br a b => exact h.2.1
  | sp a b => exact h.2.1
theorem mask_bit {s : Sw} (hl : s.long = true) (i : Nat) : s.mask.testBit i = (decide (s.fst = i) || decide (s.snd = i)) := by
  cases s with
  | feed a => cases hl
  | earth a => cases hl
  | br a b =>
    show (2 ^ a ||| 2 ^ b).testBit i = _
    rw [Nat.testBit_or, Nat.testBit_two_pow, Nat.testBit_two_pow]; rfl
  | sp a b =>
    show (2 ^ a ||| 2 ^ b).testBit i = _
    rw [Nat.testBit_or, Nat.testBit_two_pow, Nat.testBit_two_pow]; rfl
theorem fmask_bit (s : Sw) (i : Nat) : s.fmask.testBit i = (s.isF && decide (s.fst = i)) := by
  cases s with
  | feed a =>
    show (2 ^ a).testBit i = _
    rw [Nat.testBit_two_pow]; rfl
  | earth a => exact Nat.zero_testBit i
  | br a b => exact Nat.zero_testBit i
  | sp a b => exact Nat.zero_testBit i
theorem swAt_of {sws : List Sw} {k : Nat} {s : Sw} (h : sws[k]? = some s) : swAt sws k = s ∧ k < sws.length := by
  obtain ⟨hk, e⟩ := List.getElem?_eq_some_iff.mp h
  exact ⟨by rw [← e, swAt_get hk], hk⟩
/-- no more bars are live than a closed set that holds the shut feeds -/
theorem live_sub {sws : List Sw} {st n : Nat} (R : Nat → Bool) (ho : ∀ s ∈ sws, s.Ok n) (h1 : ∀ k, k < sws.length → st.testBit k = true → (swAt sws k).isF = true → R (swAt sws k).fst = true)
    (h2 : ∀ k, k < sws.length → st.testBit k = true → (swAt sws k).long = true → R (swAt sws k).fst = R (swAt sws k).snd) : ∀ i, (liveN sws st).testBit i = true → R i = true := by
  have key : Le (liveN sws st) (maskR n R) := by
    refine cl_least (fun i hi => ?_) fun p hp hn => ?_
    · obtain ⟨k, s, hk, hb, hf⟩ := fset_bit.mp hi
      obtain ⟨e, hk2⟩ := swAt_of hk
      rw [fmask_bit] at hf
      have hf2 : s.isF = true ∧ s.fst = i := by revert hf; cases s.isF <;> simp
      have := h1 k hk2 hb (by rw [e]; exact hf2.1)
      rw [e, hf2.2] at this
      have hlt := fst_ltO (ho s (List.mem_of_getElem? hk))
      rw [maskR_bit, this, ← hf2.2]
      simp [hlt]
    · obtain ⟨k, s, hk, hb, hl, rfl⟩ := mem_prs.mp hp
      obtain ⟨e, hk2⟩ := swAt_of hk
      have q := h2 k hk2 hb (by rw [e]; exact hl)
      rw [e] at q
      have o := ho s (List.mem_of_getElem? hk)
      have l1 := fst_ltO o
      have l2 := snd_ltO hl o
      have : R s.fst = true ∧ R s.snd = true := by
        cases q1 : R s.fst with
        | true => exact ⟨rfl, by rw [← q, q1]⟩
        | false =>
          exfalso
          apply hn
          rw [and_zero_iff]
          intro i hi
          rw [maskR_bit] at hi
          rw [mask_bit hl]
          have hR : R i = true := by revert hi; cases R i <;> simp
          have n1 : ¬ s.fst = i := fun z => by rw [← z, q1] at hR; cases hR
          have n2 : ¬ s.snd = i := fun z => by rw [← z, ← q, q1] at hR; cases hR
          simp [n1, n2]
      intro i hi
      rw [mask_bit hl] at hi
      rw [maskR_bit]
      have : s.fst = i ∨ s.snd = i := by simpa using hi
      rcases this with z | z <;> subst z <;> simp [*]
  intro i hi
  have := key i hi
  rw [maskR_bit] at this
  revert this
  cases R i <;> simp
theorem live_feed {sws : List Sw} {st k : Nat} (hk : k < sws.length) (hb : st.testBit k = true) (hF : (swAt sws k).isF = true) : (liveN sws st).testBit (swAt sws k).fst = true := by
  refine cl_le _ _ _ (fset_bit.mpr ⟨k, swAt sws k, by rw [List.getElem?_eq_getElem hk, swAt_get hk], hb, ?_⟩)
  rw [fmask_bit, hF]; simp
theorem live_link {sws : List Sw} {st k : Nat} (hk : k < sws.length) (hb : st.testBit k = true) (hl : (swAt sws k).long = true) : (liveN sws st).testBit (swAt sws k).fst = (liveN sws st).testBit (swAt sws k).snd := by
  have c := cl_cl (prs sws st) (fset Sw.fmask sws st) (swAt sws k).mask (mem_prs.mpr ⟨k, swAt sws k, by rw [List.getElem?_eq_getElem hk, swAt_get hk], hb, hl, rfl⟩)
  have c : liveN sws st &&& (swAt sws k).mask ≠ 0 → Le (swAt sws k).mask (liveN sws st) := c
  have m1 : (swAt sws k).mask.testBit (swAt sws k).fst = true := by rw [mask_bit hl]; simp
  have m2 : (swAt sws k).mask.testBit (swAt sws k).snd = true := by rw [mask_bit hl]; simp
  cases q1 : (liveN sws st).testBit (swAt sws k).fst with
  | true =>
    refine (c (fun z => ?_) _ m2).symm
    have := and_zero_iff.mp z _ q1
    rw [m1] at this; cases this
  | false =>
    cases q2 : (liveN sws st).testBit (swAt sws k).snd with
    | false => rfl
    | true =>
      have := c (fun z => by
        have := and_zero_iff.mp z _ q2
        rw [m2] at this; cases this) _ m1
      rw [q1] at this; cases this
theorem diff_full {m X k : Nat} (hk : k < m) : (diff (2 ^ m - 1) X).testBit k = !X.testBit k := by
  rw [diff_bit, Nat.testBit_two_pow_sub_one]
  simp [hk]
end RL

/-! RM19: texts as lists of signs; what a number's word tells. -/
namespace RL
open PySem L2
/-- a text by its signs -/
def mkS (l : List Nat) : Str := ⟨l.toArray⟩
theorem tl_mkS (l : List Nat) : TL.tl (mkS l) = l := TL.tl_mk l
theorem mkS_tl (x : Str) : mkS (TL.tl x) = x := TL.mk_tl x
theorem mkS_len (l : List Nat) : (mkS l).length = l.length := by rw [TL.len_tl, tl_mkS]
theorem mkS_inj {l m : List Nat} (h : mkS l = mkS m) : l = m := by
  have := congrArg TL.tl h
  rwa [tl_mkS, tl_mkS] at this
theorem mkS_eq {l m : List Nat} : mkS l = mkS m ↔ l = m := ⟨mkS_inj, fun h => by rw [h]⟩
theorem mkS_app (l m : List Nat) : mkS l ++ mkS m = mkS (l ++ m) := TL.ext_tl (by rw [TL.tl_append, tl_mkS, tl_mkS, tl_mkS])
/-- cut at each sign s -/
def sp (s : Nat) (l : List Nat) : List (List Nat) := TL.spl [s] 0 [] l
theorem pre1 (s c : Nat) (r : List Nat) : TL.pre [s] (c :: r) = decide (c = s) := by
  show ([c] == [s]) = _
  by_cases h : c = s
  · subst h; simp
  · simp [h]
theorem spl_app (s : Nat) : ∀ (a acc b : List Nat), TL.spl [s] 0 acc (a ++ s :: b) = TL.spl [s] 0 acc a ++ TL.spl [s] 0 [] b
  | [], acc, b => by
    rw [List.nil_append, TL.spl_hit (by rw [pre1]; simp), TL.spl_nil]
    rfl
  | c :: a, acc, b => by
    rw [List.cons_append]
    by_cases h : c = s
    · rw [TL.spl_hit (by rw [pre1]; simp [h]), TL.spl_hit (by rw [pre1]; simp [h])]
      show acc :: TL.spl [s] 0 [] (a ++ s :: b) = acc :: (TL.spl [s] 0 [] a ++ _)
      rw [spl_app s a [] b]
    · rw [TL.spl_miss (by rw [pre1]; simp [h]), TL.spl_miss (by rw [pre1]; simp [h]), spl_app s a _ b]
theorem sp_app (s : Nat) (a b : List Nat) : sp s (a ++ s :: b) = sp s a ++ sp s b := spl_app s a [] b
theorem sp_free {s : Nat} {l : List Nat} (h : s ∉ l) : sp s l = [l] := TL.spl_last1 h
theorem sp_word {s : Nat} {a : List Nat} (h : s ∉ a) (b : List Nat) : sp s (a ++ s :: b) = a :: sp s b := by rw [sp_app, sp_free h]; rfl
theorem spl_len (s : Nat) : ∀ (a acc : List Nat), (TL.spl [s] 0 acc a).length = a.count s + 1
  | [], acc => by rw [TL.spl_nil]; rfl
  | c :: a, acc => by
    by_cases h : c = s
    · rw [TL.spl_hit (by rw [pre1]; simp [h])]
      show (TL.spl [s] 0 [] a).length + 1 = _
      rw [spl_len s a [], h, List.count_cons_self]
    · rw [TL.spl_miss (by rw [pre1]; simp [h]), spl_len s a, List.count_cons_of_ne h]
theorem sp_len (s : Nat) (l : List Nat) : (sp s l).length = l.count s + 1 := spl_len s l []
theorem sp_ne (s : Nat) (l : List Nat) : sp s l ≠ [] := fun h => by
  have := sp_len s l
  rw [h] at this; simp at this
theorem split_sp {x y : Str} {s : Nat} (hy : TL.tl y = [s]) (hs : s < 256) : Txt.split x y = (sp s (TL.tl x)).map mkS := by
  refine TL.map_tl_inj ?_
  have h := TL.split_spl x y (by rw [hy]; simp) (TL.kind_ok (by
    rw [← Array.all_toList, show y.cps.toList = [s] from hy]
    simp [hs]))
  rw [h, hy, List.map_map]
  show _ = (sp s (TL.tl x)).map (TL.tl ∘ mkS)
  rw [show TL.tl ∘ mkS = id from funext tl_mkS, List.map_id]
  rfl
theorem v_splitB {x : Str} (h : x.length + 2 ≤ sizeLine) : D.split1 (.str x) (.str " ") = .ok (.lst ((sp 32 (TL.tl x)).map fun w => D.str (mkS w))) := by
  rw [v_split (by decide) h, split_sp (s := 32) (by decide) (by decide), List.map_map]; rfl
theorem v_splitN {x : Str} (h : x.length + 2 ≤ sizeLine) : D.split1 (.str x) (.str "\n") = .ok (.lst ((sp 10 (TL.tl x)).map fun w => D.str (mkS w))) := by
  rw [v_split (by decide) h, split_sp (s := 10) (by decide) (by decide), List.map_map]; rfl
/-- joined -/
theorem v_joinL (s : Str) (ws : List (List Nat)) (h : (ws.map (·.length)).sum + ws.length * s.length ≤ 16777216) : D.join1 (.str s) (.lst (ws.map fun w => D.str (mkS w))) = .ok (.str (mkS (TL.joinL (TL.tl s) ws))) := by
  have e : (ws.map fun w => D.str (mkS w)) = (ws.map mkS).map D.str := by rw [List.map_map]; rfl
  rw [e, v_join s (ws.map mkS) (by
    rw [List.map_map, List.length_map]
    rw [show (fun x : Str => x.length) ∘ mkS = fun w : List Nat => w.length from funext mkS_len]
    exact h)]
  congr 2
  refine TL.ext_tl ?_
  rw [TL.join_eq, TL.tl_join, List.map_map, tl_mkS, show TL.tl ∘ mkS = id from funext tl_mkS, List.map_id]
/-! ### numbers written -/
def isF (c : Nat) : Bool := decide (48 ≤ c) && decide (c ≤ 57)
/-- what a number's word tells -/
def numV (w : List Nat) : Option Nat :=
  if (decide (1 ≤ w.length) && decide (w.length ≤ 9)) = true then
    if w.all isF = true then
      if (decide (w.head? = some 48) && !decide (w = [48])) = true then none else some (NumText.digitsVal w)
    else none
  else none
theorem isF_iff {c : Nat} : isF c = true ↔ 48 ≤ c ∧ c ≤ 57 := by unfold isF; simp
theorem all_F {w : List Nat} : w.all isF = true ↔ NumText.AllDigits w := by
  rw [List.all_eq_true]
  exact ⟨fun h c hc => isF_iff.mp (h c hc), fun h c hc => isF_iff.mpr (h c hc)⟩
theorem digits_lt : ∀ (w : List Nat) (a : Nat), NumText.AllDigits w → w.foldl (fun acc c => acc * 10 + (c - 48)) a < (a + 1) * 10 ^ w.length
  | [], a, _ => by simp
  | c :: w, a, h => by
    have hc := h.head
    have ih := digits_lt w (a * 10 + (c - 48)) h.tail
    rw [List.foldl_cons, List.length_cons, Nat.pow_succ]
    refine Nat.lt_of_lt_of_le ih ?_
    rw [Nat.mul_comm (10 ^ w.length) 10, ← Nat.mul_assoc]
    exact Nat.mul_le_mul_right _ (by omega)
theorem numV_lt {w : List Nat} {n : Nat} (h : numV w = some n) : n < 10 ^ 9 := by
  unfold numV at h
  split at h
  · rename_i h1
    split at h
    · rename_i h2
      split at h
      · cases h
      · cases h
        have h3 := digits_lt w 0 (all_F.mp h2)
        rw [Bool.and_eq_true, decide_eq_true_eq, decide_eq_true_eq] at h1
        have h4 : 10 ^ w.length ≤ 10 ^ 9 := Nat.pow_le_pow_right (by decide) h1.2
        unfold NumText.digitsVal
        omega
    · cases h
  · cases h
theorem numL_head : ∀ n : Nat, 0 < n → (TL.numL n).head? ≠ some 48 := by
  intro n
  induction n using Nat.strongRecOn with
  | _ n ih =>
    intro h0
    by_cases h : n < 10
    · rw [TL.numL_lt h]
      simp; omega
    · rw [TL.numL_step (by omega)]
      have h1 := ih (n / 10) (by omega) (by omega)
      have h2 := TL.numL_ne (n / 10)
      cases q : TL.numL (n / 10) with
      | nil => exact absurd q h2
      | cons a r => rw [q] at h1; simpa using h1
theorem numL_pos (n : Nat) : 1 ≤ (TL.numL n).length := by
  have := TL.numL_ne n
  cases q : TL.numL n with
  | nil => exact absurd q this
  | cons a r => simp
theorem numV_num {n : Nat} (h : n < 10 ^ 9) : numV (TL.numL n) = some n := by
  have h1 := numL_pos n
  have h2 := TL.numL_len (k := 9) (by decide) h
  unfold numV
  rw [if_pos (by simp [h1, h2]), if_pos (all_F.mpr (TL.numL_digits n))]
  rw [if_neg, TL.numL_val]
  rw [Bool.and_eq_true, decide_eq_true_eq]
  rintro ⟨h3, h4⟩
  by_cases h0 : n = 0
  · subst h0
    rw [TL.numL_lt (by decide)] at h4
    simp at h4
  · exact numL_head n (by omega) h3
theorem numV_free {w : List Nat} {c : Nat} (h : c ∈ w) (hc : ¬ (48 ≤ c ∧ c ≤ 57)) : numV w = none := by
  unfold numV
  split
  · split
    · rename_i h2
      exact absurd (all_F.mp h2 c h) hc
    · rfl
  · rfl
theorem numS_mk (n : Nat) : numS n = mkS (TL.numL n) := TL.ext_tl (by rw [tl_mkS]; exact TL.tl_num n)
theorem v_str1n {n : Nat} (h : n < 2 ^ 1919) : D.str1 (.int (n : Int)) = .ok (.str (mkS (TL.numL n))) := by
  show (if ((n : Nat) : Int).natAbs.log2 < 1920 then Res.ok (D.str (numS n)) else Res.stuck) = _
  rw [if_pos, numS_mk]
  rw [Int.natAbs_natCast]
  by_cases h0 : n = 0
  · subst h0; decide
  · have := (Nat.log2_lt h0).mpr h
    omega
/-! ### signs of texts -/
theorem v_itemsS (l : List Nat) : D.items (.str (mkS l)) = .ok (l.map fun c => .str (mkS [c])) := id rfl
theorem v_inS (l : List Nat) (c : Nat) : D.inn (.str (mkS [c])) (.str (mkS l)) = .ok (.bl (decide (c ∈ l))) := by
  show (Res.ok (!(Builtin.Str.occurrences (mkS l) (mkS [c]) 0 (mkS l).length 1).isEmpty)).bind (fun k => D.b k) = _
  rw [show mkS [c] = (⟨#[c]⟩ : Str) from rfl, StrLaws.found_one]
  rfl
theorem v_ninS (l : List Nat) (c : Nat) : D.nin (.str (mkS [c])) (.str (mkS l)) = .ok (.bl (!decide (c ∈ l))) := by
  show (Res.ok (!(Builtin.Str.occurrences (mkS l) (mkS [c]) 0 (mkS l).length 1).isEmpty)).bind (fun k => D.b (!k)) = _
  rw [show mkS [c] = (⟨#[c]⟩ : Str) from rfl, StrLaws.found_one]
  rfl
theorem v_lenS {l : List Nat} (h : l.length ≤ sizeLine) : D.len (.str (mkS l)) = .ok (.int (l.length : Int)) := by
  show (if (mkS l).length ≤ sizeLine then Res.ok (D.int ((mkS l).length : Nat)) else Res.stuck) = _
  rw [mkS_len, if_pos h]
theorem v_ixS {l : List Nat} (h : l.length ≤ sizeLine) (i : Int) : D.ix (.str (mkS l)) (.int i) = .ofOpt ((atI l i).map fun c => .str (mkS [c])) := by
  show (if (mkS l).length ≤ sizeLine then Res.ofOpt ((atI (mkS l).cps.toList i).map fun c => D.str ⟨#[c]⟩) else Res.stuck) = _
  rw [mkS_len, if_pos h]; rfl
def figs : List Nat := [48, 49, 50, 51, 52, 53, 54, 55, 56, 57]
theorem figs_eq : ("0123456789" : Str) = mkS figs := by decide +kernel
theorem mem_figs (c : Nat) : decide (c ∈ figs) = isF c := by
  apply Bool.eq_iff_iff.mpr
  rw [decide_eq_true_eq, isF_iff]
  unfold figs
  simp only [List.mem_cons, List.not_mem_nil, or_false]
  omega
theorem v_ninF (c : Nat) : D.nin (.str (mkS [c])) (.str "0123456789") = .ok (.bl (!isF c)) := by
  rw [figs_eq, v_ninS, mem_figs]
theorem v_int1S {w : List Nat} (h : NumText.AllDigits w) (h1 : w ≠ []) (h2 : w.length ≤ 640) : D.int1 (.str (mkS w)) = .ok (.int ((NumText.digitsVal w : Nat) : Int)) := by
  show (if (mkS w).length ≤ 640 then Res.ofOpt ((PySem.intText? (mkS w)).map D.int) else .stuck) = _
  rw [mkS_len, if_pos h2, PySem.intText_digits (x := mkS w) (by rw [show (mkS w).cps.toList = w from tl_mkS w]; exact h) (by rw [show (mkS w).cps.toList = w from tl_mkS w]; exact h1) (by rw [mkS_len]; omega), show (mkS w).cps.toList = w from tl_mkS w]
  rfl
end RL
namespace RL
open PySem L2
/-! ### rows -/
theorem spl_le (s : Nat) : ∀ (a acc : List Nat), ∀ p ∈ TL.spl [s] 0 acc a, p.length ≤ acc.length + a.length
  | [], acc, p, h => by
    rw [TL.spl_nil] at h
    rw [List.mem_singleton.mp h]; simp
  | c :: a, acc, p, h => by
    rw [List.length_cons]
    by_cases hc : c = s
    · rw [TL.spl_hit (by rw [pre1]; simp [hc])] at h
      rcases List.mem_cons.mp h with h | h
      · rw [h]; omega
      · have := spl_le s a [] p h
        simp at this; omega
    · rw [TL.spl_miss (by rw [pre1]; simp [hc])] at h
      have := spl_le s a _ p h
      rw [List.length_append] at this
      simp at this; omega
theorem sp_le {s : Nat} {l p : List Nat} (h : p ∈ sp s l) : p.length ≤ l.length := by
  have := spl_le s l [] p h
  simpa using this
abbrev wd (x : Str) : List Nat := TL.tl x
/-- what a count's words tell -/
def cntR (ws : List (List Nat)) : Res Nat := match ws with
  | [k, a] => if k = wd "bars" then (match numV a with
    | none => .exc "NoRow"
    | some n => if n < 1 ∨ 10 < n then .exc "NoMeasure" else .ok n) else .exc "NoRow"
  | _ => .exc "NoRow"
def endsV (k : List Nat) : Nat := if k = wd "feed" ∨ k = wd "earth" then 1 else if k = wd "breaker" ∨ k = wd "splitter" then 2 else 0
/-- what a switch's words tell -/
def swR (n : Nat) (ws : List (List Nat)) : Res D := match ws with
  | [k, a] => if endsV k = 1 then (match numV a with
    | none => .exc "NoRow"
    | some x => if n ≤ x then .exc "NoBar" else .ok (.tup [.str (mkS k), .int (x : Int)])) else .exc "NoRow"
  | [k, a, b] => if endsV k = 2 then (match numV a with
    | none => .exc "NoRow"
    | some x => (match numV b with
      | none => .exc "NoRow"
      | some y => if n ≤ x then .exc "NoBar" else if n ≤ y then .exc "NoBar" else if x = y then .exc "Same" else .ok (.tup [.str (mkS k), .int (x : Int), .int (y : Int)]))) else .exc "NoRow"
  | _ => .exc "NoRow"
/-- a row behind a yard's -/
def wsR (n : Nat) (acc : List D) (row : List Nat) : Res (List D) := if 12 ≤ acc.length then .exc "NoRow" else (swR n (sp 32 row)).bind fun d => .ok (acc ++ [d])
def rowsR (n : Nat) : List D → List (List Nat) → Res (List D)
  | acc, [] => .ok acc
  | acc, r :: rs => (wsR n acc r).bind fun acc' => rowsR n acc' rs
/-- what a text's rows tell -/
def readR (rows : List (List Nat)) : Res D := match rows with
  | [] => .stuck
  | r :: rs => (cntR (sp 32 r)).bind fun n => (rowsR n [] rs).bind fun l => .ok (.tup [.int (n : Int), .lst l])
theorem v_slice1 (x : D) (l : List D) : D.sliceI (.lst (x :: l)) (some 1) none = .ok (.lst l) := by
  show Res.ok (D.lst (D.cut (x :: l) (some 1) none)) = _
  unfold D.cut
  rw [show HT.sIx (x :: l).length 0 (some 1) = 1 by simp [HT.sIx], show HT.sIx (x :: l).length (x :: l).length none = l.length + 1 by simp [HT.sIx]]
  show Res.ok (D.lst (l.take (l.length + 1 - 1))) = _
  rw [List.take_of_length_le (by omega)]
theorem v_atI0 (x : D) (l : List D) : atI (x :: l) 0 = some x := atI_nat (i := 0)
theorem v_atI1 (x y : D) (l : List D) : atI (x :: y :: l) 1 = some y := atI_nat (i := 1)
theorem v_atI2 (x y z : D) (l : List D) : atI (x :: y :: z :: l) 2 = some z := atI_nat (i := 2)
theorem addTT' {x : D} {l m : List D} (h : l.length + m.length ≤ 100) : D.add (.tup (x :: l)) (.tup m) = .ok (.tup (x :: l ++ m)) := by
  show (if (x :: l).length + m.length ≤ sizeLine then Res.ok (D.tup (x :: l ++ m)) else .stuck) = _
  rw [if_pos (Nat.le_trans (show (x :: l).length + m.length ≤ 101 by rw [List.length_cons]; omega) (by decide))]
theorem str_mk (x : Str) : (.str x : D) = .str (mkS (wd x)) := by rw [mkS_tl]
theorem eq_mk {k : List Nat} {x : Str} : mkS k = x ↔ k = wd x := by
  constructor
  · intro h; rw [← h, wd, tl_mkS]
  · intro h; rw [h, wd, mkS_tl]
end RL
namespace RL
open PySem L2
/-- each item told in turn, up to the first refusal -/
def mapE {α β : Type} (f : α → Res β) : List α → Res (List β)
  | [] => .ok []
  | x :: l => (f x).bind fun y => (mapE f l).bind fun ys => .ok (y :: ys)
theorem v_compX {f : D → Res D} : ∀ (l acc : List D), acc.length + l.length < sizeLine → compX l acc (elM one (fun _ => Res.ok true) (un1 f)) = (mapE f l).bind fun ys => .ok (acc ++ ys)
  | [], acc, _ => by
    show Res.ok acc = Res.ok (acc ++ [])
    rw [List.append_nil]
  | x :: l, acc, h => by
    rw [compX_cons]
    show (match (elM one (fun _ => Res.ok true) (un1 f) x) with
      | .ok (some x) => _ | .ok none => _ | .exc k => _ | .stuck => _) = ((f x).bind fun y => (mapE f l).bind fun ys => .ok (y :: ys)).bind _
    simp only [elM, v_one, Res.ok_bind, if_true, v_un1]
    cases f x with
    | exc k => rfl
    | stuck => rfl
    | ok y =>
      simp only [Res.ok_bind]
      rw [List.length_cons] at h
      rw [if_pos (by omega), v_compX l _ (by rw [List.length_append]; simp; omega)]
      cases mapE f l with
      | exc k => rfl
      | stuck => rfl
      | ok ys =>
        simp only [Res.ok_bind]
        rw [List.append_assoc]; rfl
end RL
namespace RL
open PySem L2
theorem v_sliceS {l : List Nat} (h : l.length ≤ sizeLine) (lo hi : Option Int) : D.sliceI (.str (mkS l)) lo hi = .ok (.str (mkS (D.cut l lo hi))) := by
  show (if (mkS l).length ≤ sizeLine then Res.ok (D.str (cutS (mkS l) lo hi)) else .stuck) = _
  rw [mkS_len, if_pos h]
  rfl
theorem v_addS {a b : List Nat} (h : a.length + b.length ≤ 16777216) : D.add (.str (mkS a)) (.str (mkS b)) = .ok (.str (mkS (a ++ b))) := by
  show (if (mkS a).length + (mkS b).length ≤ sizeLine then Res.ok (D.str (mkS a ++ mkS b)) else .stuck) = _
  rw [mkS_len, mkS_len, if_pos (show a.length + b.length ≤ sizeLine from h), mkS_app]
theorem repS_mk (c : Nat) : ∀ n : Nat, D.repS n (mkS [c]) = mkS (List.replicate n c)
  | 0 => rfl
  | n + 1 => by
    have ih := repS_mk c n
    unfold D.repS at ih ⊢
    rw [List.replicate_succ, List.foldl_cons, fold_app]
    have e : TL.tl (⟨(List.replicate n (mkS [c]).cps).foldl (· ++ ·) #[]⟩ : Str) = List.replicate n c := by rw [ih, tl_mkS]
    refine TL.ext_tl ?_
    rw [tl_mkS]
    show ((#[] ++ (mkS [c]).cps) ++ (List.replicate n (mkS [c]).cps).foldl (· ++ ·) #[]).toList = _
    rw [Array.toList_append, Array.toList_append]
    have e : ((List.replicate n (mkS [c]).cps).foldl (· ++ ·) #[]).toList = List.replicate n c := e
    rw [e, List.replicate_succ]
    rfl
theorem v_mulS (c : Nat) {n : Nat} (h : n ≤ 1000000) : D.mul (.str (mkS [c])) (.int (n : Int)) = .ok (.str (mkS (List.replicate n c))) := by
  show (if D.repOk (mkS [c]).length (n : Int) = true then Res.ok (D.str (D.repS ((n : Int).toNat) (mkS [c]))) else .stuck) = _
  rw [if_pos (by unfold D.repOk; rw [mkS_len]; simp; omega), Int.toNat_natCast, repS_mk]
theorem v_isT_mkS (l : List Nat) : D.isT "str" (.str (mkS l)) = .ok (.bl true) := id rfl
/-- the digits of a number -/
abbrev nl (n : Nat) : List Nat := TL.numL n
theorem nl_len {n : Nat} (h : n < 10 ^ 9) : (nl n).length ≤ 9 := TL.numL_len (by decide) h
theorem nl_le {n k : Nat} (hk : 0 < k) (h : n < 10 ^ k) : (nl n).length ≤ k := TL.numL_len hk h
theorem nl_free {n s : Nat} (h : s < 48 ∨ 57 < s) : s ∉ nl n := TL.numL_free h
theorem v_str1i {i : Int} (h0 : 0 ≤ i) (h1 : i < 10 ^ 30) : D.str1 (.int i) = .ok (.str (mkS (nl i.toNat))) := by
  obtain ⟨n, rfl⟩ := Int.eq_ofNat_of_zero_le h0
  rw [Int.toNat_natCast, v_str1n]
  have : n < 10 ^ 30 := by omega
  refine Nat.lt_of_lt_of_le this ?_
  exact Nat.le_trans (show 10 ^ 30 ≤ 2 ^ 100 by decide) (Nat.pow_le_pow_right (by decide) (by decide))
end RL
namespace RL
open PySem L2
theorem v_pow (i j : Int) : D.pow (.int i) (.int j) = if 0 ≤ j ∧ j ≤ 1000000 ∧ i.natAbs < 18446744073709551616 then .ok (.int (i ^ j.toNat)) else .stuck := id rfl
theorem v_pow9 : D.pow (.int 10) (.int 9) = .ok (.int 1000000000) := by
  rw [v_pow, if_pos (by decide)]; rfl
end RL
namespace RL
open PySem L2
/-! ### switches' words with one word open -/
theorem swR_bad {n : Nat} {k : List Nat} {l : List (List Nat)} (h : endsV k = 0 ∨ l.length ≠ endsV k) : swR n (k :: l) = .exc "NoRow" := by
  match l, h with
  | [], _ => rfl
  | [a], h =>
    show (if endsV k = 1 then _ else Res.exc "NoRow") = _
    rw [if_neg (by
      rcases h with h | h
      · omega
      · exact fun z => h (by rw [z]; rfl))]
  | [a, b], h =>
    show (if endsV k = 2 then _ else Res.exc "NoRow") = _
    rw [if_neg (by
      rcases h with h | h
      · omega
      · exact fun z => h (by rw [z]; rfl))]
  | _ :: _ :: _ :: _, _ => rfl
theorem sp_len2 {s : Nat} {w : List Nat} (h : s ∈ w) : 2 ≤ (sp s w).length := by
  have := sp_len s w
  have := List.count_pos_iff.mpr h
  omega
theorem swR_one {n : Nat} {k w : List Nat} (hk : endsV k = 1) : swR n (k :: sp 32 w) = match numV w with
    | none => .exc "NoRow"
    | some x => if n ≤ x then .exc "NoBar" else .ok (.tup [.str (mkS k), .int (x : Int)]) := by
  by_cases h : 32 ∈ w
  · rw [numV_free h (by decide)]
    exact swR_bad (.inr (by have := sp_len2 h; omega))
  · rw [sp_free h]
    exact if_pos hk
theorem swR_two {n : Nat} {k w b : List Nat} {y : Nat} (hk : endsV k = 2) (hb : 32 ∉ b) (hy : numV b = some y) (hn : y < n) : swR n (k :: sp 32 (w ++ 32 :: b)) = match numV w with
    | none => .exc "NoRow"
    | some x => if n ≤ x then .exc "NoBar" else if x = y then .exc "Same" else .ok (.tup [.str (mkS k), .int (x : Int), .int (y : Int)]) := by
  rw [sp_app, sp_free hb]
  by_cases h : 32 ∈ w
  · rw [numV_free h (by decide)]
    exact swR_bad (.inr (by have := sp_len2 h; rw [List.length_append]; simp; omega))
  · rw [sp_free h]
    show (if endsV k = 2 then _ else _) = _
    rw [if_pos hk, hy]
    cases numV w with
    | none => rfl
    | some x =>
      have : ¬ n ≤ y := by omega
      simp only [this, if_false]
theorem swR_two' {n : Nat} {k w a : List Nat} {x : Nat} (hk : endsV k = 2) (ha : 32 ∉ a) (hx : numV a = some x) (hn : x < n) : swR n (k :: sp 32 (a ++ 32 :: w)) = match numV w with
    | none => .exc "NoRow"
    | some y => if n ≤ y then .exc "NoBar" else if x = y then .exc "Same" else .ok (.tup [.str (mkS k), .int (x : Int), .int (y : Int)]) := by
  rw [sp_word ha]
  by_cases h : 32 ∈ w
  · rw [numV_free h (by decide)]
    exact swR_bad (.inr (by have := sp_len2 h; simp; omega))
  · rw [sp_free h]
    show (if endsV k = 2 then _ else _) = _
    rw [if_pos hk, hx]
    cases numV w with
    | none => rfl
    | some y =>
      have : ¬ n ≤ x := by omega
      simp only [this, if_false]
theorem cntR_one {w : List Nat} : cntR (wd "bars" :: sp 32 w) = match numV w with
    | none => .exc "NoRow"
    | some n => if n < 1 ∨ 10 < n then .exc "NoMeasure" else .ok n := by
  by_cases h : 32 ∈ w
  · rw [numV_free h (by decide)]
    have := sp_len2 h
    match q : sp 32 w with
    | [] => rw [q] at this; simp at this
    | [_] => rw [q] at this; simp at this
    | _ :: _ :: _ => rfl
  · rw [sp_free h]
    show (if wd "bars" = wd "bars" then (match numV w with
      | none => Res.exc "NoRow"
      | some n => if n < 1 ∨ 10 < n then Res.exc "NoMeasure" else Res.ok n) else Res.exc "NoRow") = _
    exact if_pos (Eq.refl (wd "bars"))
theorem cntR_10 : cntR (sp 32 (wd "bars 10")) = .ok 10 := by
  rw [show wd "bars 10" = wd "bars" ++ 32 :: wd "10" by decide +kernel, sp_word (by decide +kernel), cntR_one, show numV (wd "10") = some 10 by decide +kernel]
  rfl
end RL

open PySem L2
namespace RL
namespace G

def top (i : Nat) : Stmt := PySem.Challenge.pw_earthward_k06_numbers_written.main.body.getD i (.Pass ⟨0, 0, 0, 0⟩)
abbrev s_number_of : Stmt := top 11
abbrev s_count_told : Stmt := top 12
abbrev s_ends_of : Stmt := top 13
abbrev s_switch_told : Stmt := top 14
abbrev s_with_switch : Stmt := top 15
abbrev s_read : Stmt := top 16
abbrev s__law_writing : Stmt := top 18
abbrev s__law_number : Stmt := top 19
abbrev s__law_class : Stmt := top 20
abbrev s__law_told : Stmt := top 21
abbrev s__law_row : Stmt := top 22
abbrev s_law : Stmt := top 23
def fn : List He.DefD := [
  ⟨("_law_writing", none), "_law_writing", "_law_writing", defArgs s__law_writing, defBody s__law_writing, defScope s__law_writing, [], []⟩,
  ⟨("_law_number", none), "_law_number", "_law_number", defArgs s__law_number, defBody s__law_number, defScope s__law_number, [], []⟩,
  ⟨("_law_row", none), "_law_row", "_law_row", defArgs s__law_row, defBody s__law_row, defScope s__law_row, [], []⟩,
  ⟨("number_of", none), "number_of", "number_of", defArgs s_number_of, defBody s_number_of, defScope s_number_of, [], []⟩,
  ⟨("count_told", none), "count_told", "count_told", defArgs s_count_told, defBody s_count_told, defScope s_count_told, [], []⟩,
  ⟨("ends_of", none), "ends_of", "ends_of", defArgs s_ends_of, defBody s_ends_of, defScope s_ends_of, [], []⟩,
  ⟨("switch_told", none), "switch_told", "switch_told", defArgs s_switch_told, defBody s_switch_told, defScope s_switch_told, [], []⟩,
  ⟨("with_switch", none), "with_switch", "with_switch", defArgs s_with_switch, defBody s_with_switch, defScope s_with_switch, [], []⟩,
  ⟨("read", none), "read", "read", defArgs s_read, defBody s_read, defScope s_read, [], []⟩,
  ⟨("_law_class", none), "_law_class", "_law_class", defArgs s__law_class, defBody s__law_class, defScope s__law_class, [], []⟩,
  ⟨("_law_told", none), "_law_told", "_law_told", defArgs s__law_told, defBody s__law_told, defScope s__law_told, [], []⟩,
  ⟨("law", none), "law", "law", defArgs s_law, defBody s_law, defScope s_law, [], []⟩]
def fa : List He.Fa := [
  .free "str",
  .free "len",
  .glo "_law_writing",
  .glo "_law_number",
  .glo "_law_row",
  .free "max",
  .free "int",
  .glo "NoRow",
  .exc "NoRow",
  .int "LONGEST" 9,
  .str "FIGURES" "0123456789",
  .glo "number_of",
  .int "MOST_BARS" 10,
  .glo "NoMeasure",
  .exc "NoMeasure",
  .glo "count_told",
  .int "MOST_SWITCHES" 12,
  .glo "ends_of",
  .glo "NoBar",
  .exc "NoBar",
  .glo "Same",
  .exc "Same",
  .free "tuple",
  .glo "switch_told",
  .glo "with_switch",
  .glo "read",
  .exm "Same" "Same" true,
  .exm "NoRow" "Same" false,
  .exm "NoMeasure" "Same" false,
  .exm "NoBar" "Same" false,
  .exm "Same" "NoBar" false,
  .exm "NoRow" "NoBar" false,
  .exm "NoMeasure" "NoBar" false,
  .exm "NoBar" "NoBar" true,
  .exm "Same" "NoMeasure" false,
  .exm "NoRow" "NoMeasure" false,
  .exm "NoMeasure" "NoMeasure" true,
  .exm "NoBar" "NoMeasure" false,
  .exm "Same" "NoRow" false,
  .exm "NoRow" "NoRow" true,
  .exm "NoMeasure" "NoRow" false,
  .exm "NoBar" "NoRow" false,
  .glo "_law_class",
  .free "isinstance",
  .free "bool",
  .glo "_law_told",
  .glo "law"]
def fx : List Fx := [
  ]
def Tx (K : PySem.W.Frag) (mg : Str → Option Value) : Prop := ∃ h : Heap, K.In h ∧ h.Ns mainGlobals mg ∧ He.SaysD fa fn K ∧ (fx.all fun f => f.ok K) = true
section
variable {K : PySem.W.Frag} {mg : Str → Option Value}
theorem g_str (C : Tx K mg) : mg "str" = none := by
  obtain ⟨h, X, G, c, _⟩ := C
  exact He.free_ok X G (c.fact 0 rfl)
theorem g_len (C : Tx K mg) : mg "len" = none := by
  obtain ⟨h, X, G, c, _⟩ := C
  exact He.free_ok X G (c.fact 1 rfl)
theorem g__law_writing (C : Tx K mg) : mg "_law_writing" = some (.ref (He.ga K "_law_writing")) := by
  obtain ⟨h, X, G, c, _⟩ := C
  exact He.glo_ok X G (c.fact 2 rfl)
theorem g__law_number (C : Tx K mg) : mg "_law_number" = some (.ref (He.ga K "_law_number")) := by
  obtain ⟨h, X, G, c, _⟩ := C
  exact He.glo_ok X G (c.fact 3 rfl)
theorem g__law_row (C : Tx K mg) : mg "_law_row" = some (.ref (He.ga K "_law_row")) := by
  obtain ⟨h, X, G, c, _⟩ := C
  exact He.glo_ok X G (c.fact 4 rfl)
theorem g_max (C : Tx K mg) : mg "max" = none := by
  obtain ⟨h, X, G, c, _⟩ := C
  exact He.free_ok X G (c.fact 5 rfl)
theorem g_int (C : Tx K mg) : mg "int" = none := by
  obtain ⟨h, X, G, c, _⟩ := C
  exact He.free_ok X G (c.fact 6 rfl)
theorem g_NoRow (C : Tx K mg) : mg "NoRow" = some (.ref (He.ga K "NoRow")) := by
  obtain ⟨h, X, G, c, _⟩ := C
  exact He.glo_ok X G (c.fact 7 rfl)
theorem ex_NoRow (C : Tx K mg) : PySem.W.excIn K (He.ga K "NoRow") He.veBase "ValueError.__new__" = true ∧ PySem.W.keepIn K (.ref (He.ga K "NoRow")) = true ∧ PySem.W.subIn K (.ref (He.ga K "NoRow")) (.type "BaseException") = some true ∧ PySem.W.typeIn K (.ref (He.ga K "NoRow")) = some (.type "type") := by
  obtain ⟨h, X, G, c, _⟩ := C
  exact He.exc_ok (c.fact 8 rfl)
theorem g_LONGEST (C : Tx K mg) : ∃ t, mg "LONGEST" = some (.int 9 t) := by
  obtain ⟨h, X, G, c, _⟩ := C
  exact He.int_ok X G (c.fact 9 rfl)
theorem g_FIGURES (C : Tx K mg) : ∃ t, mg "FIGURES" = some (.str "0123456789" t) := by
  obtain ⟨h, X, G, c, _⟩ := C
  exact He.str_ok X G (c.fact 10 rfl)
theorem g_number_of (C : Tx K mg) : mg "number_of" = some (.ref (He.ga K "number_of")) := by
  obtain ⟨h, X, G, c, _⟩ := C
  exact He.glo_ok X G (c.fact 11 rfl)
theorem g_MOST_BARS (C : Tx K mg) : ∃ t, mg "MOST_BARS" = some (.int 10 t) := by
  obtain ⟨h, X, G, c, _⟩ := C
  exact He.int_ok X G (c.fact 12 rfl)
theorem g_NoMeasure (C : Tx K mg) : mg "NoMeasure" = some (.ref (He.ga K "NoMeasure")) := by
  obtain ⟨h, X, G, c, _⟩ := C
  exact He.glo_ok X G (c.fact 13 rfl)
theorem ex_NoMeasure (C : Tx K mg) : PySem.W.excIn K (He.ga K "NoMeasure") He.veBase "ValueError.__new__" = true ∧ PySem.W.keepIn K (.ref (He.ga K "NoMeasure")) = true ∧ PySem.W.subIn K (.ref (He.ga K "NoMeasure")) (.type "BaseException") = some true ∧ PySem.W.typeIn K (.ref (He.ga K "NoMeasure")) = some (.type "type") := by
  obtain ⟨h, X, G, c, _⟩ := C
  exact He.exc_ok (c.fact 14 rfl)
theorem g_count_told (C : Tx K mg) : mg "count_told" = some (.ref (He.ga K "count_told")) := by
  obtain ⟨h, X, G, c, _⟩ := C
  exact He.glo_ok X G (c.fact 15 rfl)
theorem g_MOST_SWITCHES (C : Tx K mg) : ∃ t, mg "MOST_SWITCHES" = some (.int 12 t) := by
  obtain ⟨h, X, G, c, _⟩ := C
  exact He.int_ok X G (c.fact 16 rfl)
theorem g_ends_of (C : Tx K mg) : mg "ends_of" = some (.ref (He.ga K "ends_of")) := by
  obtain ⟨h, X, G, c, _⟩ := C
  exact He.glo_ok X G (c.fact 17 rfl)
theorem g_NoBar (C : Tx K mg) : mg "NoBar" = some (.ref (He.ga K "NoBar")) := by
  obtain ⟨h, X, G, c, _⟩ := C
  exact He.glo_ok X G (c.fact 18 rfl)
theorem ex_NoBar (C : Tx K mg) : PySem.W.excIn K (He.ga K "NoBar") He.veBase "ValueError.__new__" = true ∧ PySem.W.keepIn K (.ref (He.ga K "NoBar")) = true ∧ PySem.W.subIn K (.ref (He.ga K "NoBar")) (.type "BaseException") = some true ∧ PySem.W.typeIn K (.ref (He.ga K "NoBar")) = some (.type "type") := by
  obtain ⟨h, X, G, c, _⟩ := C
  exact He.exc_ok (c.fact 19 rfl)
theorem g_Same (C : Tx K mg) : mg "Same" = some (.ref (He.ga K "Same")) := by
  obtain ⟨h, X, G, c, _⟩ := C
  exact He.glo_ok X G (c.fact 20 rfl)
theorem ex_Same (C : Tx K mg) : PySem.W.excIn K (He.ga K "Same") He.veBase "ValueError.__new__" = true ∧ PySem.W.keepIn K (.ref (He.ga K "Same")) = true ∧ PySem.W.subIn K (.ref (He.ga K "Same")) (.type "BaseException") = some true ∧ PySem.W.typeIn K (.ref (He.ga K "Same")) = some (.type "type") := by
  obtain ⟨h, X, G, c, _⟩ := C
  exact He.exc_ok (c.fact 21 rfl)
theorem g_tuple (C : Tx K mg) : mg "tuple" = none := by
  obtain ⟨h, X, G, c, _⟩ := C
  exact He.free_ok X G (c.fact 22 rfl)
theorem g_switch_told (C : Tx K mg) : mg "switch_told" = some (.ref (He.ga K "switch_told")) := by
  obtain ⟨h, X, G, c, _⟩ := C
  exact He.glo_ok X G (c.fact 23 rfl)
theorem g_with_switch (C : Tx K mg) : mg "with_switch" = some (.ref (He.ga K "with_switch")) := by
  obtain ⟨h, X, G, c, _⟩ := C
  exact He.glo_ok X G (c.fact 24 rfl)
theorem g_read (C : Tx K mg) : mg "read" = some (.ref (He.ga K "read")) := by
  obtain ⟨h, X, G, c, _⟩ := C
  exact He.glo_ok X G (c.fact 25 rfl)
theorem em_Same_Same (C : Tx K mg) : PySem.W.exmOne K (.ref (He.ga K "Same")) (.ref (He.ga K "Same")) = some true := by
  obtain ⟨h, X, G, c, _⟩ := C
  exact He.exm_ok (c.fact 26 rfl)
theorem em_NoRow_Same (C : Tx K mg) : PySem.W.exmOne K (.ref (He.ga K "NoRow")) (.ref (He.ga K "Same")) = some false := by
  obtain ⟨h, X, G, c, _⟩ := C
  exact He.exm_ok (c.fact 27 rfl)
theorem em_NoMeasure_Same (C : Tx K mg) : PySem.W.exmOne K (.ref (He.ga K "NoMeasure")) (.ref (He.ga K "Same")) = some false := by
  obtain ⟨h, X, G, c, _⟩ := C
  exact He.exm_ok (c.fact 28 rfl)
theorem em_NoBar_Same (C : Tx K mg) : PySem.W.exmOne K (.ref (He.ga K "NoBar")) (.ref (He.ga K "Same")) = some false := by
  obtain ⟨h, X, G, c, _⟩ := C
  exact He.exm_ok (c.fact 29 rfl)
theorem em_Same_NoBar (C : Tx K mg) : PySem.W.exmOne K (.ref (He.ga K "Same")) (.ref (He.ga K "NoBar")) = some false := by
  obtain ⟨h, X, G, c, _⟩ := C
  exact He.exm_ok (c.fact 30 rfl)
theorem em_NoRow_NoBar (C : Tx K mg) : PySem.W.exmOne K (.ref (He.ga K "NoRow")) (.ref (He.ga K "NoBar")) = some false := by
  obtain ⟨h, X, G, c, _⟩ := C
  exact He.exm_ok (c.fact 31 rfl)
theorem em_NoMeasure_NoBar (C : Tx K mg) : PySem.W.exmOne K (.ref (He.ga K "NoMeasure")) (.ref (He.ga K "NoBar")) = some false := by
  obtain ⟨h, X, G, c, _⟩ := C
  exact He.exm_ok (c.fact 32 rfl)
theorem em_NoBar_NoBar (C : Tx K mg) : PySem.W.exmOne K (.ref (He.ga K "NoBar")) (.ref (He.ga K "NoBar")) = some true := by
  obtain ⟨h, X, G, c, _⟩ := C
  exact He.exm_ok (c.fact 33 rfl)
theorem em_Same_NoMeasure (C : Tx K mg) : PySem.W.exmOne K (.ref (He.ga K "Same")) (.ref (He.ga K "NoMeasure")) = some false := by
  obtain ⟨h, X, G, c, _⟩ := C
  exact He.exm_ok (c.fact 34 rfl)
theorem em_NoRow_NoMeasure (C : Tx K mg) : PySem.W.exmOne K (.ref (He.ga K "NoRow")) (.ref (He.ga K "NoMeasure")) = some false := by
  obtain ⟨h, X, G, c, _⟩ := C
  exact He.exm_ok (c.fact 35 rfl)
theorem em_NoMeasure_NoMeasure (C : Tx K mg) : PySem.W.exmOne K (.ref (He.ga K "NoMeasure")) (.ref (He.ga K "NoMeasure")) = some true := by
  obtain ⟨h, X, G, c, _⟩ := C
  exact He.exm_ok (c.fact 36 rfl)
theorem em_NoBar_NoMeasure (C : Tx K mg) : PySem.W.exmOne K (.ref (He.ga K "NoBar")) (.ref (He.ga K "NoMeasure")) = some false := by
  obtain ⟨h, X, G, c, _⟩ := C
  exact He.exm_ok (c.fact 37 rfl)
theorem em_Same_NoRow (C : Tx K mg) : PySem.W.exmOne K (.ref (He.ga K "Same")) (.ref (He.ga K "NoRow")) = some false := by
  obtain ⟨h, X, G, c, _⟩ := C
  exact He.exm_ok (c.fact 38 rfl)
theorem em_NoRow_NoRow (C : Tx K mg) : PySem.W.exmOne K (.ref (He.ga K "NoRow")) (.ref (He.ga K "NoRow")) = some true := by
  obtain ⟨h, X, G, c, _⟩ := C
  exact He.exm_ok (c.fact 39 rfl)
theorem em_NoMeasure_NoRow (C : Tx K mg) : PySem.W.exmOne K (.ref (He.ga K "NoMeasure")) (.ref (He.ga K "NoRow")) = some false := by
  obtain ⟨h, X, G, c, _⟩ := C
  exact He.exm_ok (c.fact 40 rfl)
theorem em_NoBar_NoRow (C : Tx K mg) : PySem.W.exmOne K (.ref (He.ga K "NoBar")) (.ref (He.ga K "NoRow")) = some false := by
  obtain ⟨h, X, G, c, _⟩ := C
  exact He.exm_ok (c.fact 41 rfl)
theorem g__law_class (C : Tx K mg) : mg "_law_class" = some (.ref (He.ga K "_law_class")) := by
  obtain ⟨h, X, G, c, _⟩ := C
  exact He.glo_ok X G (c.fact 42 rfl)
theorem g_isinstance (C : Tx K mg) : mg "isinstance" = none := by
  obtain ⟨h, X, G, c, _⟩ := C
  exact He.free_ok X G (c.fact 43 rfl)
theorem g_bool (C : Tx K mg) : mg "bool" = none := by
  obtain ⟨h, X, G, c, _⟩ := C
  exact He.free_ok X G (c.fact 44 rfl)
theorem g__law_told (C : Tx K mg) : mg "_law_told" = some (.ref (He.ga K "_law_told")) := by
  obtain ⟨h, X, G, c, _⟩ := C
  exact He.glo_ok X G (c.fact 45 rfl)
theorem g_law (C : Tx K mg) : mg "law" = some (.ref (He.ga K "law")) := by
  obtain ⟨h, X, G, c, _⟩ := C
  exact He.glo_ok X G (c.fact 46 rfl)
theorem fd__law_writing (C : Tx K mg) : ∃ fd, FunD K "_law_writing" "_law_writing" (defArgs s__law_writing) (defBody s__law_writing) (defScope s__law_writing) [] [] (He.ga K "_law_writing") fd := by
  obtain ⟨h, X, G, c, _⟩ := C
  exact c.def_ 0 rfl
theorem fd__law_number (C : Tx K mg) : ∃ fd, FunD K "_law_number" "_law_number" (defArgs s__law_number) (defBody s__law_number) (defScope s__law_number) [] [] (He.ga K "_law_number") fd := by
  obtain ⟨h, X, G, c, _⟩ := C
  exact c.def_ 1 rfl
theorem fd__law_row (C : Tx K mg) : ∃ fd, FunD K "_law_row" "_law_row" (defArgs s__law_row) (defBody s__law_row) (defScope s__law_row) [] [] (He.ga K "_law_row") fd := by
  obtain ⟨h, X, G, c, _⟩ := C
  exact c.def_ 2 rfl
theorem fd_number_of (C : Tx K mg) : ∃ fd, FunD K "number_of" "number_of" (defArgs s_number_of) (defBody s_number_of) (defScope s_number_of) [] [] (He.ga K "number_of") fd := by
  obtain ⟨h, X, G, c, _⟩ := C
  exact c.def_ 3 rfl
theorem fd_count_told (C : Tx K mg) : ∃ fd, FunD K "count_told" "count_told" (defArgs s_count_told) (defBody s_count_told) (defScope s_count_told) [] [] (He.ga K "count_told") fd := by
  obtain ⟨h, X, G, c, _⟩ := C
  exact c.def_ 4 rfl
theorem fd_ends_of (C : Tx K mg) : ∃ fd, FunD K "ends_of" "ends_of" (defArgs s_ends_of) (defBody s_ends_of) (defScope s_ends_of) [] [] (He.ga K "ends_of") fd := by
  obtain ⟨h, X, G, c, _⟩ := C
  exact c.def_ 5 rfl
theorem fd_switch_told (C : Tx K mg) : ∃ fd, FunD K "switch_told" "switch_told" (defArgs s_switch_told) (defBody s_switch_told) (defScope s_switch_told) [] [] (He.ga K "switch_told") fd := by
  obtain ⟨h, X, G, c, _⟩ := C
  exact c.def_ 6 rfl
theorem fd_with_switch (C : Tx K mg) : ∃ fd, FunD K "with_switch" "with_switch" (defArgs s_with_switch) (defBody s_with_switch) (defScope s_with_switch) [] [] (He.ga K "with_switch") fd := by
  obtain ⟨h, X, G, c, _⟩ := C
  exact c.def_ 7 rfl
theorem fd_read (C : Tx K mg) : ∃ fd, FunD K "read" "read" (defArgs s_read) (defBody s_read) (defScope s_read) [] [] (He.ga K "read") fd := by
  obtain ⟨h, X, G, c, _⟩ := C
  exact c.def_ 8 rfl
theorem fd__law_class (C : Tx K mg) : ∃ fd, FunD K "_law_class" "_law_class" (defArgs s__law_class) (defBody s__law_class) (defScope s__law_class) [] [] (He.ga K "_law_class") fd := by
  obtain ⟨h, X, G, c, _⟩ := C
  exact c.def_ 9 rfl
theorem fd__law_told (C : Tx K mg) : ∃ fd, FunD K "_law_told" "_law_told" (defArgs s__law_told) (defBody s__law_told) (defScope s__law_told) [] [] (He.ga K "_law_told") fd := by
  obtain ⟨h, X, G, c, _⟩ := C
  exact c.def_ 10 rfl
theorem fd_law (C : Tx K mg) : ∃ fd, FunD K "law" "law" (defArgs s_law) (defBody s_law) (defScope s_law) [] [] (He.ga K "law") fd := by
  obtain ⟨h, X, G, c, _⟩ := C
  exact c.def_ 11 rfl
end
section
variable {P : Program} {w : World} {K : PySem.W.Frag} {mg : Str → Option Value} {base : Heap}
def m_law_writing : D → Me := fun x0 =>
  (Res.bind (Res.bind (Res.ok x0) fun x => Res.bind (Res.ok (D.int 7)) fun y => D.fdiv x y) fun d1 => (Res.bind (Res.bind (Res.bind (Res.bind (Res.ok x0) fun x => Res.bind (Res.ok (D.int 7)) fun y => D.mod x y) fun x => Res.bind (Res.ok (D.int 0)) fun y => D.eq x y) asB) fun k => if k = true then (Res.bind (Res.bind (Res.bind (Res.bind (Res.ok d1) fun x => Res.bind (Res.bind (Res.ok (D.int 10)) fun x => Res.bind (Res.ok (D.int 9)) fun y => D.pow x y) fun y => D.mod x y) fun x => Res.bind (Res.ok []) fun xs => Res.ok (x :: xs)) (ap1 D.str1)) fun d => Res.ok (Fl.rt d ())) else (Res.bind (Res.bind (Res.bind (Res.bind (Res.ok x0) fun x => Res.bind (Res.ok (D.int 7)) fun y => D.mod x y) fun x => Res.bind (Res.ok (D.int 3)) fun y => D.lt x y) asB) fun k => if k = true then (Res.bind (Res.bind (Res.bind (Res.bind (Res.ok d1) fun x => Res.bind (Res.ok (D.int 13)) fun y => D.mod x y) fun x => Res.bind (Res.ok []) fun xs => Res.ok (x :: xs)) (ap1 D.str1)) fun d => Res.ok (Fl.rt d ())) else (Res.bind (Res.bind (Res.bind (Res.bind (Res.ok x0) fun x => Res.bind (Res.ok (D.int 7)) fun y => D.mod x y) fun x => Res.bind (Res.ok (D.int 3)) fun y => D.eq x y) asB) fun k => if k = true then (Res.bind (Res.bind (Res.bind (Res.ok (D.str "0")) fun x => Res.bind (Res.bind (Res.ok d1) fun x => Res.bind (Res.ok (D.int 3)) fun y => D.mod x y) fun y => D.mul x y) fun x => Res.bind (Res.bind (Res.bind (Res.bind (Res.bind (Res.ok d1) fun x => Res.bind (Res.ok (D.int 3)) fun y => D.fdiv x y) fun x => Res.bind (Res.ok (D.int 13)) fun y => D.mod x y) fun x => Res.bind (Res.ok []) fun xs => Res.ok (x :: xs)) (ap1 D.str1)) fun y => D.add x y) fun d => Res.ok (Fl.rt d ())) else (Res.bind (Res.bind (Res.bind (Res.bind (Res.ok x0) fun x => Res.bind (Res.ok (D.int 7)) fun y => D.mod x y) fun x => Res.bind (Res.ok (D.int 4)) fun y => D.eq x y) asB) fun k => if k = true then (Res.bind (Res.bind (Res.bind (Res.ok (D.str "1234567890")) fun x => Res.bind (Res.ok none) fun l => Res.bind (Res.bind (Res.bind (Res.bind (Res.ok d1) fun x => Res.bind (Res.ok (D.int 13)) fun y => D.fdiv x y) fun x => Res.bind (Res.ok (D.int 11)) fun y => D.mod x y) asI) fun h => D.sliceI x l h) fun x => Res.bind (Res.bind (Res.bind (Res.bind (Res.ok d1) fun x => Res.bind (Res.ok (D.int 13)) fun y => D.mod x y) fun x => Res.bind (Res.ok []) fun xs => Res.ok (x :: xs)) (ap1 D.str1)) fun y => D.add x y) fun d => Res.ok (Fl.rt d ())) else (Res.bind (Res.ok (D.str " !\"#$&'()*+,-./0123456789:;<=>?@ABCDEFGHIJKLMNOPQRSTUVWXYZ[\\]^_`abcdefghijklmnopqrstuvwxyz{|}~")) fun d2 => (Res.bind (Res.bind (Res.bind (Res.bind (Res.bind (Res.ok d1) fun x => Res.bind (Res.ok (D.int 94)) fun y => D.fdiv x y) fun x => Res.bind (Res.ok (D.int 100)) fun y => D.mod x y) fun x => Res.bind (Res.ok []) fun xs => Res.ok (x :: xs)) (ap1 D.str1)) fun d3 => (Res.bind (Res.bind (Res.bind (Res.bind (Res.ok d1) fun x => Res.bind (Res.ok (D.int 48271)) fun y => D.mul x y) fun x => Res.bind (Res.ok (D.int 2147483647)) fun y => D.mod x y) fun x => Res.bind (Res.bind (Res.bind (Res.bind (Res.ok d3) fun x => Res.bind (Res.ok []) fun xs => Res.ok (x :: xs)) (ap1 D.len)) fun x => Res.bind (Res.ok (D.int 1)) fun y => D.add x y) fun y => D.mod x y) fun d4 => (Res.bind (Res.bind (Res.bind (Res.bind (Res.ok d3) fun x => Res.bind (Res.ok none) fun l => Res.bind (Res.bind (Res.ok d4) asI) fun h => D.sliceI x l h) fun x => Res.bind (Res.bind (Res.ok d2) fun x => Res.bind (Res.bind (Res.ok d1) fun x => Res.bind (Res.ok (D.int 94)) fun y => D.mod x y) fun y => D.ix x y) fun y => D.add x y) fun x => Res.bind (Res.bind (Res.ok d3) fun x => Res.bind (Res.bind (Res.ok d4) asI) fun l => Res.bind (Res.ok none) fun h => D.sliceI x l h) fun y => D.add x y) fun d => Res.ok (Fl.rt d ()))))))))))
theorem sc__law_writing : FnScope ["cell", "number", "signs", "figures", "at"] ["cell"] (defScope s__law_writing) := ⟨rfl, rfl, rfl, by decide +kernel, rfl, by decide +kernel, by decide +kernel⟩
theorem fn__law_writing (C : Tx K mg) {f : Addr} {fd : FuncData} (Fd : FunD K "_law_writing" "_law_writing" (defArgs s__law_writing) (defBody s__law_writing) (defScope s__law_writing) [] [] f fd) : FnOk P w K mg base (L2.CX P w) 1 f fd ["cell"] (spD K fun ds => told (a1 m_law_writing ds)) := by
  refine fn_mk1 Fd sc__law_writing m_law_writing [.un, .un, .un, .un] rfl rfl rfl (fun cdv A outer s H Er S0 hr x0 => ?_)
  unfold m_law_writing
  exact (by exact (s_set (i := 1) (e_bin opD_fdiv (E.r (e_var 0 rfl)) (E.r e_int)) (fun d1 => (by exact (s_if (t_cmp (opD_eq hr.units) (E.r (e_bin opD_mod (E.r (e_var 0 rfl)) (E.r e_int))) (E.r e_int)) (by exact (s_ret (al0, al0) (e_callT callD_str (g_str C) (ear_cons (E.r (e_bin opD_mod (E.r (e_var 1 rfl)) (E.r (e_bin opD_pow (E.r e_int) (E.r e_int))))) ear_nil)) List.Sublist.slnil trivial)) (by exact (s_more (by exact (s_if (t_cmp opD_lt (E.r (e_bin opD_mod (E.r (e_var 0 rfl)) (E.r e_int))) (E.r e_int)) (by exact (s_ret (al0, al0) (e_callT callD_str (g_str C) (ear_cons (E.r (e_bin opD_mod (E.r (e_var 1 rfl)) (E.r e_int))) ear_nil)) List.Sublist.slnil trivial)) (by exact (s_more (by exact (s_if (t_cmp (opD_eq hr.units) (E.r (e_bin opD_mod (E.r (e_var 0 rfl)) (E.r e_int))) (E.r e_int)) (by exact (s_ret (al0, al0) (e_bin opD_add (E.r (e_bin opD_mul (E.r e_str) (E.r (e_bin opD_mod (E.r (e_var 1 rfl)) (E.r e_int))))) (E.r (e_callT callD_str (g_str C) (ear_cons (E.r (e_bin opD_mod (E.r (e_bin opD_fdiv (E.r (e_var 1 rfl)) (E.r e_int))) (E.r e_int))) ear_nil)))) List.Sublist.slnil trivial)) (by exact (s_more (by exact (s_if (t_cmp (opD_eq hr.units) (E.r (e_bin opD_mod (E.r (e_var 0 rfl)) (E.r e_int))) (E.r e_int)) (by exact (s_ret (al0, al0) (e_bin opD_add (E.r (e_slice (E.r e_str) eo_none (eo_some (e_bin opD_mod (E.r (e_bin opD_fdiv (E.r (e_var 1 rfl)) (E.r e_int))) (E.r e_int))))) (E.r (e_callT callD_str (g_str C) (ear_cons (E.r (e_bin opD_mod (E.r (e_var 1 rfl)) (E.r e_int))) ear_nil)))) List.Sublist.slnil trivial)) (by exact (s_more (by exact (s_set (i := 2) e_str (fun d2 => (by exact (s_set (i := 3) (e_callT callD_str (g_str C) (ear_cons (E.r (e_bin opD_mod (E.r (e_bin opD_fdiv (E.r (e_var 1 rfl)) (E.r e_int))) (E.r e_int))) ear_nil)) (fun d3 => (by exact (s_set (i := 4) (e_bin opD_mod (E.r (e_bin opD_mod (E.r (e_bin opD_mul (E.r (e_var 1 rfl)) (E.r e_int))) (E.r e_int))) (E.r (e_bin opD_add (E.r (e_callB callD_len (g_len C) (ear_cons (E.r (e_var 3 rfl)) ear_nil))) (E.r e_int)))) (fun d4 => (by exact (s_ret (al0, al0) (e_bin opD_add (E.r (e_bin opD_add (E.r (e_slice (E.r (e_var 3 rfl)) eo_none (eo_some (e_var 4 rfl)))) (E.r (e_ix (hu_of hr) (E.r (e_var 2 rfl)) (E.r (e_bin opD_mod (E.r (e_var 1 rfl)) (E.r e_int))))))) (E.r (e_slice (E.r (e_var 3 rfl)) (eo_some (e_var 4 rfl)) eo_none))) List.Sublist.slnil trivial))) sc__law_writing.nd rfl (Or.inl rfl) trivial))) sc__law_writing.nd rfl (Or.inl rfl) trivial))) sc__law_writing.nd rfl (Or.inl rfl) trivial)))) trivial)))) trivial)))) trivial)))) trivial))) sc__law_writing.nd rfl (Or.inl rfl) trivial))
theorem k__law_writing (C : Tx K mg) : Kn P w K mg base "_law_writing" 1 (fun ds => told (a1 m_law_writing ds)) := by
  obtain ⟨fd, Fd⟩ := fd__law_writing C
  exact ⟨_, fd, _, fn__law_writing C Fd, g__law_writing C, Fd.kp, (FunD.bindsN (ps := ["cell"]) Fd fun _ _ _ _ _ _ us hl => match us, hl with | [_], _ => rfl)⟩

def m_law_number : D → Me := fun x0 =>
  (Res.bind (Res.bind (Res.bind (Res.bind (Res.bind (Res.bind (Res.ok x0) fun x => Res.bind (Res.ok []) fun xs => Res.ok (x :: xs)) (ap1 D.len)) fun x => Res.bind (Res.ok (D.int 1)) fun y => D.lt x y) asB) fun c => if c = true then Res.ok true else (Res.bind (Res.bind (Res.bind (Res.bind (Res.bind (Res.ok x0) fun x => Res.bind (Res.ok []) fun xs => Res.ok (x :: xs)) (ap1 D.len)) fun x => Res.bind (Res.ok (D.int 9)) fun y => D.gt x y) asB) fun c => if c = true then Res.ok true else (Res.bind (Res.bind (Res.bind (Res.bind (Res.ok x0) fun x => Res.bind (Res.ok (D.int 0)) fun y => D.ix x y) fun x => Res.bind (Res.ok (D.str "0")) fun y => D.eq x y) asB) fun c => if c = true then (Res.bind (Res.bind (Res.ok x0) fun x => Res.bind (Res.ok (D.str "0")) fun y => D.ne x y) asB) else Res.ok false))) fun k => if k = true then (Res.bind (Res.bind (Res.ok (D.int 1)) D.neg) fun d => Res.ok (Fl.rt d ())) else (Res.bind (Res.ok (D.int 0)) fun d1 => (Res.bind (Res.bind (Res.ok x0) D.items) fun ds => andThen (loop ds d1 fun d t2 => Res.bind (one d) fun xs => un1 (fun i4 => (Res.bind (Res.bind (Res.bind (Res.ok i4) fun x => Res.bind (Res.ok (D.str "0123456789")) fun y => D.nin x y) asB) fun k => if k = true then (Res.bind (Res.bind (Res.ok (D.int 1)) D.neg) fun d => Res.ok (Fl.rt d ())) else (Res.bind (Res.bind (Res.bind (Res.ok (D.int 10)) fun x => Res.bind (Res.ok t2) fun y => D.mul x y) fun x => Res.bind (Res.bind (Res.ok (D.str "0123456789")) fun a => Res.bind (asS a) fun _ => Res.bind (Res.ok i4) fun l => D.find1 a l) fun y => D.add x y) fun d5 => (Res.ok (Fl.nx d5))))) xs) fun t6 => (Res.bind (Res.ok t6) fun d => Res.ok (Fl.rt d ())))))
theorem sc__law_number : FnScope ["word", "number", "sign"] ["word"] (defScope s__law_number) := ⟨rfl, rfl, rfl, by decide +kernel, rfl, by decide +kernel, by decide +kernel⟩
theorem fn__law_number (C : Tx K mg) {f : Addr} {fd : FuncData} (Fd : FunD K "_law_number" "_law_number" (defArgs s__law_number) (defBody s__law_number) (defScope s__law_number) [] [] f fd) : FnOk P w K mg base (L2.CX P w) 1 f fd ["word"] (spD K fun ds => told (a1 m_law_number ds)) := by
  refine fn_mk1 Fd sc__law_number m_law_number [.un, .un] rfl rfl rfl (fun cdv A outer s H Er S0 hr x0 => ?_)
  unfold m_law_number
  exact (by exact (s_if (t_w (tw_or (t_cmp opD_lt (E.r (e_callB callD_len (g_len C) (ear_cons (E.r (e_var 0 rfl)) ear_nil))) (E.r e_int)) (tw_or (t_cmp opD_gt (E.r (e_callB callD_len (g_len C) (ear_cons (E.r (e_var 0 rfl)) ear_nil))) (E.r e_int)) (tw_or1 (t_w (tw_and (t_cmp (opD_eq hr.units) (E.r (e_ix (hu_of hr) (E.r (e_var 0 rfl)) (E.r e_int))) (E.r e_str)) (tw_and1 (t_cmp (opD_ne hr.units) (E.r (e_var 0 rfl)) (E.r e_str))))))))) (by exact (s_ret (al0, al0) (e_neg e_int) List.Sublist.slnil trivial)) (by exact (s_more (by exact (s_set (i := 1) e_int (fun d1 => (by exact (s_for (o' := (fun (t : D) (al_ : Al) => ([.is x0, .is t, .un], []))) (is := [2]) d1 (ei_val (e_var 0 rfl)) (tj_name sc__law_number.nd rfl (Or.inl rfl)) (alN _ [], al0) (aok an_nil) (Wk.same (Wk.same (Wk.same Wk.nil))) List.Sublist.slnil (fun ds t2 al3 hal3 => sj1 (fun i4 => (by exact (s_if (t_cmp (opD_nin (hu_of hr)) (E.r (e_var 2 rfl)) (E.r e_str)) (by exact (s_ret (al0, al0) (e_neg e_int) List.Sublist.slnil trivial)) (by exact (s_more (by exact (s_set (i := 1) (e_bin opD_add (E.r (e_bin opD_mul (E.r e_int) (E.r (e_var 1 rfl)))) (E.r (e_find e_str (e_var 2 rfl)))) (fun d5 => (by exact (s_end (alN _ [], al0) (aok an_nil) (Wk.same (Wk.same (Wk.un Wk.nil))) List.Sublist.slnil))) sc__law_number.nd rfl (Or.inl rfl) trivial)))) trivial)))) (fun t6 al7 hal7 => (by exact (s_ret (al0, al0) (e_var 1 rfl) List.Sublist.slnil trivial))) trivial rfl (passes_of rfl)))) sc__law_number.nd rfl (Or.inl rfl) trivial)))) trivial))
theorem k__law_number (C : Tx K mg) : Kn P w K mg base "_law_number" 1 (fun ds => told (a1 m_law_number ds)) := by
  obtain ⟨fd, Fd⟩ := fd__law_number C
  exact ⟨_, fd, _, fn__law_number C Fd, g__law_number C, Fd.kp, (FunD.bindsN (ps := ["word"]) Fd fun _ _ _ _ _ _ us hl => match us, hl with | [_], _ => rfl)⟩

def m_law_row : D → D → D → D → Me := fun x0 x1 x2 x3 =>
  (Res.bind (Res.bind (Res.bind (Res.ok x1) fun x => Res.bind (Res.ok (D.int 2)) fun y => D.lt x y) asB) fun k => if k = true then (Res.bind (Res.bind (Res.bind (Res.bind (Res.bind (Res.bind (Res.bind (Res.bind (Res.ok (D.str "feed")) fun x => Res.bind (Res.bind (Res.ok (D.str "earth")) fun x => Res.bind (Res.ok []) fun xs => Res.ok (x :: xs)) fun xs => Res.ok (x :: xs)) mkLst) fun x => Res.bind (Res.ok x1) fun y => D.ix x y) fun x => Res.bind (Res.ok (D.str " ")) fun y => D.add x y) fun x => Res.bind (Res.ok x2) fun y => D.add x y) fun x => Res.bind (Res.bind (Res.bind (Res.bind (Res.bind (Res.bind (Res.bind (Res.ok (D.str "feed")) fun x => Res.bind (Res.bind (Res.ok (D.str "earth")) fun x => Res.bind (Res.ok []) fun xs => Res.ok (x :: xs)) fun xs => Res.ok (x :: xs)) mkLst) fun x => Res.bind (Res.ok x1) fun y => D.ix x y) fun x => Res.bind (Res.bind (Res.ok x3) fun x => Res.bind (Res.ok []) fun xs => Res.ok (x :: xs)) fun xs => Res.ok (x :: xs)) mkTup) fun x => Res.bind (Res.ok []) fun xs => Res.ok (x :: xs)) fun xs => Res.ok (x :: xs)) mkLst) fun d => Res.ok (Fl.rt d ())) else (Res.bind (Res.bind (Res.bind (Res.bind (Res.ok x1) fun x => Res.bind (Res.ok (D.int 2)) fun y => D.mod x y) fun x => Res.bind (Res.ok (D.int 0)) fun y => D.eq x y) asB) fun k => if k = true then (Res.bind (Res.bind (Res.bind (Res.bind (Res.bind (Res.bind (Res.ok x0) fun x => Res.bind (Res.ok (D.str " ")) fun y => D.add x y) fun x => Res.bind (Res.ok x2) fun y => D.add x y) fun x => Res.bind (Res.ok (D.str " 7")) fun y => D.add x y) fun x => Res.bind (Res.bind (Res.bind (Res.bind (Res.ok x0) fun x => Res.bind (Res.bind (Res.ok x3) fun x => Res.bind (Res.bind (Res.ok (D.int 7)) fun x => Res.bind (Res.ok []) fun xs => Res.ok (x :: xs)) fun xs => Res.ok (x :: xs)) fun xs => Res.ok (x :: xs)) mkTup) fun x => Res.bind (Res.ok []) fun xs => Res.ok (x :: xs)) fun xs => Res.ok (x :: xs)) mkLst) fun d => Res.ok (Fl.rt d ())) else (Res.bind (Res.bind (Res.bind (Res.bind (Res.bind (Res.ok x0) fun x => Res.bind (Res.ok (D.str " 4 ")) fun y => D.add x y) fun x => Res.bind (Res.ok x2) fun y => D.add x y) fun x => Res.bind (Res.bind (Res.bind (Res.bind (Res.ok x0) fun x => Res.bind (Res.bind (Res.ok (D.int 4)) fun x => Res.bind (Res.bind (Res.ok x3) fun x => Res.bind (Res.ok []) fun xs => Res.ok (x :: xs)) fun xs => Res.ok (x :: xs)) fun xs => Res.ok (x :: xs)) mkTup) fun x => Res.bind (Res.ok []) fun xs => Res.ok (x :: xs)) fun xs => Res.ok (x :: xs)) mkLst) fun d => Res.ok (Fl.rt d ()))))
theorem sc__law_row : FnScope ["kind", "at", "word", "number"] ["kind", "at", "word", "number"] (defScope s__law_row) := ⟨rfl, rfl, rfl, by decide +kernel, rfl, by decide +kernel, by decide +kernel⟩
theorem fn__law_row (C : Tx K mg) {f : Addr} {fd : FuncData} (Fd : FunD K "_law_row" "_law_row" (defArgs s__law_row) (defBody s__law_row) (defScope s__law_row) [] [] f fd) : FnOk P w K mg base (L2.CX P w) 1 f fd ["kind", "at", "word", "number"] (spD K fun ds => told (a4 m_law_row ds)) := by
  refine fn_mk4 Fd sc__law_row m_law_row [] rfl rfl rfl (fun cdv A outer s H Er S0 hr x0 x1 x2 x3 => ?_)
  unfold m_law_row
  exact (by exact (s_if (t_cmp opD_lt (E.r (e_var 1 rfl)) (E.r e_int)) (by exact (s_ret (al0, al0) (e_lst (ea_cons (e_bin opD_add (E.r (e_bin opD_add (E.r (e_ix (hu_of hr) (E.r (e_lst (ea_cons e_str (ea_cons e_str ea_nil)))) (E.r (e_var 1 rfl)))) (E.r e_str))) (E.r (e_var 2 rfl))) (ea_cons (e_tup (ea_cons (e_ix (hu_of hr) (E.r (e_lst (ea_cons e_str (ea_cons e_str ea_nil)))) (E.r (e_var 1 rfl))) (ea_cons (e_var 3 rfl) ea_nil))) ea_nil))) List.Sublist.slnil trivial)) (by exact (s_more (by exact (s_if (t_cmp (opD_eq hr.units) (E.r (e_bin opD_mod (E.r (e_var 1 rfl)) (E.r e_int))) (E.r e_int)) (by exact (s_ret (al0, al0) (e_lst (ea_cons (e_bin opD_add (E.r (e_bin opD_add (E.r (e_bin opD_add (E.r (e_var 0 rfl)) (E.r e_str))) (E.r (e_var 2 rfl)))) (E.r e_str)) (ea_cons (e_tup (ea_cons (e_var 0 rfl) (ea_cons (e_var 3 rfl) (ea_cons e_int ea_nil)))) ea_nil))) List.Sublist.slnil trivial)) (by exact (s_more (by exact (s_ret (al0, al0) (e_lst (ea_cons (e_bin opD_add (E.r (e_bin opD_add (E.r (e_var 0 rfl)) (E.r e_str))) (E.r (e_var 2 rfl))) (ea_cons (e_tup (ea_cons (e_var 0 rfl) (ea_cons e_int (ea_cons (e_var 3 rfl) ea_nil)))) ea_nil))) List.Sublist.slnil trivial)))) trivial)))) trivial))
theorem k__law_row (C : Tx K mg) : Kn P w K mg base "_law_row" 1 (fun ds => told (a4 m_law_row ds)) := by
  obtain ⟨fd, Fd⟩ := fd__law_row C
  exact ⟨_, fd, _, fn__law_row C Fd, g__law_row C, Fd.kp, (FunD.bindsN (ps := ["kind", "at", "word", "number"]) Fd fun _ _ _ _ _ _ us hl => match us, hl with | [_, _, _, _], _ => rfl)⟩

def m_number_of : D → Me := fun x0 =>
  (Res.bind (Res.bind (Res.bind (Res.bind (Res.ok (D.int 1)) fun x => Res.bind (Res.bind (Res.bind (Res.ok x0) fun x => Res.bind (Res.ok []) fun xs => Res.ok (x :: xs)) (ap1 D.len)) fun y => Res.bind (Res.bind (D.le x y) asB) fun k => if k = true then Res.bind (Res.ok (D.int 9)) fun z => D.le y z else Res.ok (D.bl false)) asB) fun c => Res.ok (!c)) fun k => if k = true then (Res.exc "NoRow") else (Res.bind (Res.bind (Res.ok x0) D.items) fun ds => andThen (loop ds () fun d t1 => Res.bind (one d) fun xs => un1 (fun i3 => (Res.bind (Res.bind (Res.bind (Res.ok i3) fun x => Res.bind (Res.ok (D.str "0123456789")) fun y => D.nin x y) asB) fun k => if k = true then (Res.exc "NoRow") else (Res.ok (Fl.nx ())))) xs) fun t4 => (Res.bind (Res.bind (Res.bind (Res.bind (Res.bind (Res.ok x0) fun x => Res.bind (Res.ok (D.int 0)) fun y => D.ix x y) fun x => Res.bind (Res.ok (D.str "0")) fun y => D.eq x y) asB) fun c => if c = true then (Res.bind (Res.bind (Res.ok x0) fun x => Res.bind (Res.ok (D.str "0")) fun y => D.ne x y) asB) else Res.ok false) fun k => if k = true then (Res.exc "NoRow") else (Res.bind (Res.bind (Res.bind (Res.ok x0) fun x => Res.bind (Res.ok []) fun xs => Res.ok (x :: xs)) (ap1 D.int1)) fun d => Res.ok (Fl.rt d ())))))
theorem sc_number_of : FnScope ["word", "sign"] ["word"] (defScope s_number_of) := ⟨rfl, rfl, rfl, by decide +kernel, rfl, by decide +kernel, by decide +kernel⟩
theorem fn_number_of (C : Tx K mg) {f : Addr} {fd : FuncData} (Fd : FunD K "number_of" "number_of" (defArgs s_number_of) (defBody s_number_of) (defScope s_number_of) [] [] f fd) : FnOk P w K mg base (L2.CX P w) 1 f fd ["word"] (spD K fun ds => told (a1 m_number_of ds)) := by
  refine fn_mk1 Fd sc_number_of m_number_of [.un] rfl rfl rfl (fun cdv A outer s H Er S0 hr x0 => ?_)
  unfold m_number_of
  exact (by exact (s_if (t_not (t_chain opD_le opD_le (E.r e_int) (E.r (e_callB callD_len (g_len C) (ear_cons (E.r (e_var 0 rfl)) ear_nil))) (E.r (e_gInt (g_LONGEST C))))) (by exact (s_raise ⟨g_NoRow C, ex_NoRow C⟩ trivial rfl)) (by exact (s_more (by exact (s_for (o' := (fun (t : Unit) (al_ : Al) => ([.is x0, .un], []))) (is := [1]) () (ei_val (e_var 0 rfl)) (tj_name sc_number_of.nd rfl (Or.inl rfl)) (alN _ [], al0) (aok an_nil) (Wk.same (Wk.same Wk.nil)) List.Sublist.slnil (fun ds t1 al2 hal2 => sj1 (fun i3 => (by exact (s_if (t_cmp (opD_nin (hu_of hr)) (E.r (e_var 1 rfl)) (E.r (e_gStr (g_FIGURES C)))) (by exact (s_raise ⟨g_NoRow C, ex_NoRow C⟩ trivial rfl)) (by exact (s_more (by exact (s_end (alN _ [], al0) (aok an_nil) (Wk.same (Wk.un Wk.nil)) List.Sublist.slnil)))) trivial)))) (fun t4 al5 hal5 => (by exact (s_if (t_w (tw_and (t_cmp (opD_eq hr.units) (E.r (e_ix (hu_of hr) (E.r (e_var 0 rfl)) (E.r e_int))) (E.r e_str)) (tw_and1 (t_cmp (opD_ne hr.units) (E.r (e_var 0 rfl)) (E.r e_str))))) (by exact (s_raise ⟨g_NoRow C, ex_NoRow C⟩ trivial rfl)) (by exact (s_more (by exact (s_ret (al0, al0) (e_callT callD_int (g_int C) (ear_cons (E.r (e_var 0 rfl)) ear_nil)) List.Sublist.slnil trivial)))) trivial))) trivial rfl (passes_of rfl))))) trivial))
theorem k_number_of (C : Tx K mg) : Kn P w K mg base "number_of" 1 (fun ds => told (a1 m_number_of ds)) := by
  obtain ⟨fd, Fd⟩ := fd_number_of C
  exact ⟨_, fd, _, fn_number_of C Fd, g_number_of C, Fd.kp, (FunD.bindsN (ps := ["word"]) Fd fun _ _ _ _ _ _ us hl => match us, hl with | [_], _ => rfl)⟩

def m_count_told : D → Me := fun x0 =>
  (Res.bind (Res.bind (Res.ok x0) fun a => Res.bind (asS a) fun _ => Res.bind (Res.ok (D.str " ")) fun l => D.split1 a l) fun d1 => (Res.bind (Res.bind (Res.bind (Res.bind (Res.bind (Res.bind (Res.ok d1) fun x => Res.bind (Res.ok []) fun xs => Res.ok (x :: xs)) (ap1 D.len)) fun x => Res.bind (Res.ok (D.int 2)) fun y => D.ne x y) asB) fun c => if c = true then Res.ok true else (Res.bind (Res.bind (Res.bind (Res.ok d1) fun x => Res.bind (Res.ok (D.int 0)) fun y => D.ix x y) fun x => Res.bind (Res.ok (D.str "bars")) fun y => D.ne x y) asB)) fun k => if k = true then (Res.exc "NoRow") else (Res.bind (Res.bind (Res.bind (Res.bind (Res.ok d1) fun x => Res.bind (Res.ok (D.int 1)) fun y => D.ix x y) fun x => Res.bind (Res.ok []) fun xs => Res.ok (x :: xs)) (fun ds => told (a1 m_number_of ds))) fun d2 => (Res.bind (Res.bind (Res.bind (Res.bind (Res.ok d2) fun x => Res.bind (Res.ok (D.int 1)) fun y => D.lt x y) asB) fun c => if c = true then Res.ok true else (Res.bind (Res.bind (Res.ok (D.int 10)) fun x => Res.bind (Res.ok d2) fun y => D.lt x y) asB)) fun k => if k = true then (Res.exc "NoMeasure") else (Res.bind (Res.ok d2) fun d => Res.ok (Fl.rt d ()))))))
theorem sc_count_told : FnScope ["row", "words", "count"] ["row"] (defScope s_count_told) := ⟨rfl, rfl, rfl, by decide +kernel, rfl, by decide +kernel, by decide +kernel⟩
theorem fn_count_told (C : Tx K mg) {f : Addr} {fd : FuncData} (Fd : FunD K "count_told" "count_told" (defArgs s_count_told) (defBody s_count_told) (defScope s_count_told) [] [] f fd) : FnOk P w K mg base (L2.CX P w) 2 f fd ["row"] (spD K fun ds => told (a1 m_count_told ds)) := by
  refine fn_mk1 Fd sc_count_told m_count_told [.un, .un] rfl rfl rfl (fun cdv A outer s H Er S0 hr x0 => ?_)
  unfold m_count_told
  exact (by exact (s_set (i := 1) (e_split (e_var 0 rfl) e_str) (fun d1 => (by exact (s_if (t_w (tw_or (t_cmp (opD_ne hr.units) (E.r (e_callB callD_len (g_len C) (ear_cons (E.r (e_var 1 rfl)) ear_nil))) (E.r e_int)) (tw_or1 (t_cmp (opD_ne hr.units) (E.r (e_ix (hu_of hr) (E.r (e_var 1 rfl)) (E.r e_int))) (E.r e_str))))) (by exact (s_raise ⟨g_NoRow C, ex_NoRow C⟩ trivial rfl)) (by exact (s_more (by exact (s_set (i := 2) (e_call (k_number_of C) (hr.mono (by first | decide | omega)) (ea_cons (e_ix (hu_of hr) (E.r (e_var 1 rfl)) (E.r e_int)) ea_nil)) (fun d2 => (by exact (s_if (t_w (tw_or (t_cmp opD_lt (E.r (e_var 2 rfl)) (E.r e_int)) (tw_or1 (t_cmp opD_lt (E.r (e_gInt (g_MOST_BARS C))) (E.r (e_var 2 rfl)))))) (by exact (s_raise ⟨g_NoMeasure C, ex_NoMeasure C⟩ trivial rfl)) (by exact (s_more (by exact (s_ret (al0, al0) (e_var 2 rfl) List.Sublist.slnil trivial)))) trivial))) sc_count_told.nd rfl (Or.inl rfl) trivial)))) trivial))) sc_count_told.nd rfl (Or.inl rfl) trivial))
theorem k_count_told (C : Tx K mg) : Kn P w K mg base "count_told" 2 (fun ds => told (a1 m_count_told ds)) := by
  obtain ⟨fd, Fd⟩ := fd_count_told C
  exact ⟨_, fd, _, fn_count_told C Fd, g_count_told C, Fd.kp, (FunD.bindsN (ps := ["row"]) Fd fun _ _ _ _ _ _ us hl => match us, hl with | [_], _ => rfl)⟩

def m_ends_of : D → Me := fun x0 =>
  (Res.bind (Res.bind (Res.bind (Res.bind (Res.ok x0) fun x => Res.bind (Res.ok (D.str "feed")) fun y => D.eq x y) asB) fun c => if c = true then Res.ok true else (Res.bind (Res.bind (Res.ok x0) fun x => Res.bind (Res.ok (D.str "earth")) fun y => D.eq x y) asB)) fun k => if k = true then (Res.bind (Res.ok (D.int 1)) fun d => Res.ok (Fl.rt d ())) else (Res.bind (Res.bind (Res.bind (Res.bind (Res.ok x0) fun x => Res.bind (Res.ok (D.str "breaker")) fun y => D.eq x y) asB) fun c => if c = true then Res.ok true else (Res.bind (Res.bind (Res.ok x0) fun x => Res.bind (Res.ok (D.str "splitter")) fun y => D.eq x y) asB)) fun k => if k = true then (Res.bind (Res.ok (D.int 2)) fun d => Res.ok (Fl.rt d ())) else (Res.bind (Res.ok (D.int 0)) fun d => Res.ok (Fl.rt d ()))))
theorem sc_ends_of : FnScope ["kind"] ["kind"] (defScope s_ends_of) := ⟨rfl, rfl, rfl, by decide +kernel, rfl, by decide +kernel, by decide +kernel⟩
theorem fn_ends_of (C : Tx K mg) {f : Addr} {fd : FuncData} (Fd : FunD K "ends_of" "ends_of" (defArgs s_ends_of) (defBody s_ends_of) (defScope s_ends_of) [] [] f fd) : FnOk P w K mg base (L2.CX P w) 1 f fd ["kind"] (spD K fun ds => told (a1 m_ends_of ds)) := by
  refine fn_mk1 Fd sc_ends_of m_ends_of [] rfl rfl rfl (fun cdv A outer s H Er S0 hr x0 => ?_)
  unfold m_ends_of
  exact (by exact (s_if (t_w (tw_or (t_cmp (opD_eq hr.units) (E.r (e_var 0 rfl)) (E.r e_str)) (tw_or1 (t_cmp (opD_eq hr.units) (E.r (e_var 0 rfl)) (E.r e_str))))) (by exact (s_ret (al0, al0) e_int List.Sublist.slnil trivial)) (by exact (s_more (by exact (s_if (t_w (tw_or (t_cmp (opD_eq hr.units) (E.r (e_var 0 rfl)) (E.r e_str)) (tw_or1 (t_cmp (opD_eq hr.units) (E.r (e_var 0 rfl)) (E.r e_str))))) (by exact (s_ret (al0, al0) e_int List.Sublist.slnil trivial)) (by exact (s_more (by exact (s_ret (al0, al0) e_int List.Sublist.slnil trivial)))) trivial)))) trivial))
theorem k_ends_of (C : Tx K mg) : Kn P w K mg base "ends_of" 1 (fun ds => told (a1 m_ends_of ds)) := by
  obtain ⟨fd, Fd⟩ := fd_ends_of C
  exact ⟨_, fd, _, fn_ends_of C Fd, g_ends_of C, Fd.kp, (FunD.bindsN (ps := ["kind"]) Fd fun _ _ _ _ _ _ us hl => match us, hl with | [_], _ => rfl)⟩

def m_switch_told : D → D → Me := fun x0 x1 =>
  (Res.bind (Res.bind (Res.ok x1) fun a => Res.bind (asS a) fun _ => Res.bind (Res.ok (D.str " ")) fun l => D.split1 a l) fun d1 => (Res.bind (Res.bind (Res.bind (Res.bind (Res.ok d1) fun x => Res.bind (Res.ok (D.int 0)) fun y => D.ix x y) fun x => Res.bind (Res.ok []) fun xs => Res.ok (x :: xs)) (fun ds => told (a1 m_ends_of ds))) fun d2 => (Res.bind (Res.bind (Res.bind (Res.bind (Res.ok d2) fun x => Res.bind (Res.ok (D.int 0)) fun y => D.eq x y) asB) fun c => if c = true then Res.ok true else (Res.bind (Res.bind (Res.bind (Res.bind (Res.ok d1) fun x => Res.bind (Res.ok []) fun xs => Res.ok (x :: xs)) (ap1 D.len)) fun x => Res.bind (Res.bind (Res.ok (D.int 1)) fun x => Res.bind (Res.ok d2) fun y => D.add x y) fun y => D.ne x y) asB)) fun k => if k = true then (Res.exc "NoRow") else (Res.bind (Res.bind (Res.bind (Res.bind (Res.ok d1) fun x => Res.bind (Res.bind (Res.ok (D.int 1)) asI) fun l => Res.bind (Res.ok none) fun h => D.sliceI x l h) D.items) fun ds => compX ds [] (elM one (fun _ => Res.ok true) (un1 (fun i3 => (Res.bind (Res.bind (Res.ok i3) fun x => Res.bind (Res.ok []) fun xs => Res.ok (x :: xs)) (fun ds => told (a1 m_number_of ds))))))) fun l4 => (Res.bind (Res.bind (Res.ok (D.lst l4)) D.items) fun ds => andThen (loop ds () fun d t6 => Res.bind (one d) fun xs => un1 (fun i8 => (Res.bind (Res.bind (Res.bind (Res.ok i8) fun x => Res.bind (Res.ok x0) fun y => D.ge x y) asB) fun k => if k = true then (Res.exc "NoBar") else (Res.ok (Fl.nx ())))) xs) fun t9 => (Res.bind (Res.bind (Res.bind (Res.bind (Res.ok d2) fun x => Res.bind (Res.ok (D.int 2)) fun y => D.eq x y) asB) fun c => if c = true then (Res.bind (Res.bind (Res.bind (Res.ok (D.lst l4)) fun x => Res.bind (Res.ok (D.int 0)) fun y => D.ix x y) fun x => Res.bind (Res.bind (Res.ok (D.lst l4)) fun x => Res.bind (Res.ok (D.int 1)) fun y => D.ix x y) fun y => D.eq x y) asB) else Res.ok false) fun k => if k = true then (Res.exc "Same") else (Res.bind (Res.bind (Res.bind (Res.bind (Res.bind (Res.ok d1) fun x => Res.bind (Res.ok (D.int 0)) fun y => D.ix x y) fun x => Res.bind (Res.ok []) fun xs => Res.ok (x :: xs)) mkTup) fun x => Res.bind (Res.bind (Res.bind (Res.ok (D.lst l4)) fun x => Res.bind (Res.ok []) fun xs => Res.ok (x :: xs)) (ap1 D.toTup)) fun y => D.add x y) fun d => Res.ok (Fl.rt d ()))))))))
theorem sc_switch_told : FnScope ["count", "row", "words", "many", "ends", "bar", "word"] ["count", "row"] (defScope s_switch_told) := ⟨rfl, rfl, rfl, by decide +kernel, rfl, by decide +kernel, by decide +kernel⟩
theorem fn_switch_told (C : Tx K mg) {f : Addr} {fd : FuncData} (Fd : FunD K "switch_told" "switch_told" (defArgs s_switch_told) (defBody s_switch_told) (defScope s_switch_told) [] [] f fd) : FnOk P w K mg base (L2.CX P w) 2 f fd ["count", "row"] (spD K fun ds => told (a2 m_switch_told ds)) := by
  refine fn_mk2 Fd sc_switch_told m_switch_told [.un, .un, .un, .un, .un] rfl rfl rfl (fun cdv A outer s H Er S0 hr x0 x1 => ?_)
  unfold m_switch_told
  exact (by exact (s_set (i := 2) (e_split (e_var 1 rfl) e_str) (fun d1 => (by exact (s_set (i := 3) (e_call (k_ends_of C) (hr.mono (by first | decide | omega)) (ea_cons (e_ix (hu_of hr) (E.r (e_var 2 rfl)) (E.r e_int)) ea_nil)) (fun d2 => (by exact (s_if (t_w (tw_or (t_cmp (opD_eq hr.units) (E.r (e_var 3 rfl)) (E.r e_int)) (tw_or1 (t_cmp (opD_ne hr.units) (E.r (e_callB callD_len (g_len C) (ear_cons (E.r (e_var 2 rfl)) ear_nil))) (E.r (e_bin opD_add (E.r e_int) (E.r (e_var 3 rfl)))))))) (by exact (s_raise ⟨g_NoRow C, ex_NoRow C⟩ trivial rfl)) (by exact (s_more (by exact (s_setLcX (i := 4) (own := [("word", 6)]) (is := [6]) (blkOk_by (N := ["count", "row", "words", "many", "ends", "bar", "word"]) (sc := defScope s_switch_told) (by decide +kernel)) (ei_val (e_slice (E.r (e_var 2 rfl)) (eo_some e_int) eo_none)) rfl (fun σ_ s H0 Ca cl fp tk_ => (tj_name sc_switch_told.nd rfl (Or.inl rfl))) (fun σ_ xs s H0 Ca cl fp tk_ q_ acc_ => ts0) (fun σ_ xs s H0 Ca cl fp tk_ q_ acc_ => el1 (fun i3 => (e_call (k_number_of C) (hr.mono (by first | decide | omega)) (ea_cons (e_var 6 rfl) ea_nil)))) (by decide) (Or.inl rfl) (fun l4 q5 nq5 => (s_freeze 4 0 rfl rfl nq5 (by exact (s_for (o' := (fun (t : Unit) (al_ : Al) => ([.is x0, .is x1, .is d1, .is d2, .is (D.lst l4), .un, .un], []))) (is := [5]) () (ei_val (e_var 4 rfl)) (tj_name sc_switch_told.nd rfl (Or.inl rfl)) (alN _ [], al0) (aok an_nil) (Wk.same (Wk.same (Wk.same (Wk.same (Wk.same (Wk.same (Wk.same Wk.nil))))))) List.Sublist.slnil (fun ds t6 al7 hal7 => sj1 (fun i8 => (by exact (s_if (t_cmp opD_ge (E.r (e_var 5 rfl)) (E.r (e_var 0 rfl))) (by exact (s_raise ⟨g_NoBar C, ex_NoBar C⟩ trivial rfl)) (by exact (s_more (by exact (s_end (alN _ [], al0) (aok an_nil) (Wk.same (Wk.same (Wk.same (Wk.same (Wk.same (Wk.un (Wk.same Wk.nil))))))) List.Sublist.slnil)))) trivial)))) (fun t9 al10 hal10 => (by exact (s_if (t_w (tw_and (t_cmp (opD_eq hr.units) (E.r (e_var 3 rfl)) (E.r e_int)) (tw_and1 (t_cmp (opD_eq hr.units) (E.r (e_ix (hu_of hr) (E.r (e_var 4 rfl)) (E.r e_int))) (E.r (e_ix (hu_of hr) (E.r (e_var 4 rfl)) (E.r e_int))))))) (by exact (s_raise ⟨g_Same C, ex_Same C⟩ trivial rfl)) (by exact (s_more (by exact (s_ret (al0, al0) (e_bin opD_add (E.r (e_tup (ea_cons (e_ix (hu_of hr) (E.r (e_var 2 rfl)) (E.r e_int)) ea_nil))) (E.r (e_callT callD_tuple (g_tuple C) (ear_cons (E.r (e_var 4 rfl)) ear_nil)))) List.Sublist.slnil trivial)))) trivial))) trivial rfl (passes_of rfl))))) rfl sc_switch_told.nd trivial rfl rfl (sw_true rfl rfl rfl (by decide +kernel)))))) trivial))) sc_switch_told.nd rfl (Or.inl rfl) trivial))) sc_switch_told.nd rfl (Or.inl rfl) trivial))
theorem k_switch_told (C : Tx K mg) : Kn P w K mg base "switch_told" 2 (fun ds => told (a2 m_switch_told ds)) := by
  obtain ⟨fd, Fd⟩ := fd_switch_told C
  exact ⟨_, fd, _, fn_switch_told C Fd, g_switch_told C, Fd.kp, (FunD.bindsN (ps := ["count", "row"]) Fd fun _ _ _ _ _ _ us hl => match us, hl with | [_, _], _ => rfl)⟩

def m_with_switch : D → D → Me := fun x0 x1 =>
  (Res.bind (Res.bind (Res.bind (Res.bind (Res.bind (Res.bind (Res.ok x0) fun x => Res.bind (Res.ok (D.int 1)) fun y => D.ix x y) fun x => Res.bind (Res.ok []) fun xs => Res.ok (x :: xs)) (ap1 D.len)) fun x => Res.bind (Res.ok (D.int 12)) fun y => D.ge x y) asB) fun k => if k = true then (Res.exc "NoRow") else (Res.bind (Res.bind (Res.bind (Res.bind (Res.ok x0) fun x => Res.bind (Res.ok (D.int 0)) fun y => D.ix x y) fun x => Res.bind (Res.bind (Res.bind (Res.bind (Res.ok x0) fun x => Res.bind (Res.ok (D.int 1)) fun y => D.ix x y) fun x => Res.bind (Res.bind (Res.bind (Res.bind (Res.bind (Res.bind (Res.ok x0) fun x => Res.bind (Res.ok (D.int 0)) fun y => D.ix x y) fun x => Res.bind (Res.bind (Res.ok x1) fun x => Res.bind (Res.ok []) fun xs => Res.ok (x :: xs)) fun xs => Res.ok (x :: xs)) (fun ds => told (a2 m_switch_told ds))) fun x => Res.bind (Res.ok []) fun xs => Res.ok (x :: xs)) mkLst) fun y => D.add x y) fun x => Res.bind (Res.ok []) fun xs => Res.ok (x :: xs)) fun xs => Res.ok (x :: xs)) mkTup) fun d => Res.ok (Fl.rt d ())))
theorem sc_with_switch : FnScope ["yard", "row"] ["yard", "row"] (defScope s_with_switch) := ⟨rfl, rfl, rfl, by decide +kernel, rfl, by decide +kernel, by decide +kernel⟩
theorem fn_with_switch (C : Tx K mg) {f : Addr} {fd : FuncData} (Fd : FunD K "with_switch" "with_switch" (defArgs s_with_switch) (defBody s_with_switch) (defScope s_with_switch) [] [] f fd) : FnOk P w K mg base (L2.CX P w) 3 f fd ["yard", "row"] (spD K fun ds => told (a2 m_with_switch ds)) := by
  refine fn_mk2 Fd sc_with_switch m_with_switch [] rfl rfl rfl (fun cdv A outer s H Er S0 hr x0 x1 => ?_)
  unfold m_with_switch
  exact (by exact (s_if (t_cmp opD_ge (E.r (e_callB callD_len (g_len C) (ear_cons (E.r (e_ix (hu_of hr) (E.r (e_var 0 rfl)) (E.r e_int))) ear_nil))) (E.r (e_gInt (g_MOST_SWITCHES C)))) (by exact (s_raise ⟨g_NoRow C, ex_NoRow C⟩ trivial rfl)) (by exact (s_more (by exact (s_ret (al0, al0) (e_tup (ea_cons (e_ix (hu_of hr) (E.r (e_var 0 rfl)) (E.r e_int)) (ea_cons (e_bin opD_add (E.r (e_ix (hu_of hr) (E.r (e_var 0 rfl)) (E.r e_int))) (E.r (e_lst (ea_cons (e_call (k_switch_told C) (hr.mono (by first | decide | omega)) (ea_cons (e_ix (hu_of hr) (E.r (e_var 0 rfl)) (E.r e_int)) (ea_cons (e_var 1 rfl) ea_nil))) ea_nil)))) ea_nil))) List.Sublist.slnil trivial)))) trivial))
theorem k_with_switch (C : Tx K mg) : Kn P w K mg base "with_switch" 3 (fun ds => told (a2 m_with_switch ds)) := by
  obtain ⟨fd, Fd⟩ := fd_with_switch C
  exact ⟨_, fd, _, fn_with_switch C Fd, g_with_switch C, Fd.kp, (FunD.bindsN (ps := ["yard", "row"]) Fd fun _ _ _ _ _ _ us hl => match us, hl with | [_, _], _ => rfl)⟩

def m_read : D → Me := fun x0 =>
  (Res.bind (Res.bind (Res.ok x0) fun a => Res.bind (asS a) fun _ => Res.bind (Res.ok (D.str "\n")) fun l => D.split1 a l) fun d1 => (Res.bind (Res.bind (Res.bind (Res.bind (Res.bind (Res.bind (Res.ok d1) fun x => Res.bind (Res.ok (D.int 0)) fun y => D.ix x y) fun x => Res.bind (Res.ok []) fun xs => Res.ok (x :: xs)) (fun ds => told (a1 m_count_told ds))) fun x => Res.bind (Res.bind (Res.bind (Res.ok []) mkLst) fun x => Res.bind (Res.ok []) fun xs => Res.ok (x :: xs)) fun xs => Res.ok (x :: xs)) mkTup) fun d2 => (Res.bind (Res.bind (Res.bind (Res.ok d1) fun x => Res.bind (Res.bind (Res.ok (D.int 1)) asI) fun l => Res.bind (Res.ok none) fun h => D.sliceI x l h) D.items) fun ds => andThen (loop ds d2 fun d t3 => Res.bind (one d) fun xs => un1 (fun i5 => (Res.bind (Res.bind (Res.bind (Res.ok t3) fun x => Res.bind (Res.bind (Res.ok i5) fun x => Res.bind (Res.ok []) fun xs => Res.ok (x :: xs)) fun xs => Res.ok (x :: xs)) (fun ds => told (a2 m_with_switch ds))) fun d6 => (Res.ok (Fl.nx d6)))) xs) fun t7 => (Res.bind (Res.ok t7) fun d => Res.ok (Fl.rt d ())))))
theorem sc_read : FnScope ["text", "rows", "yard", "row"] ["text"] (defScope s_read) := ⟨rfl, rfl, rfl, by decide +kernel, rfl, by decide +kernel, by decide +kernel⟩
theorem fn_read (C : Tx K mg) {f : Addr} {fd : FuncData} (Fd : FunD K "read" "read" (defArgs s_read) (defBody s_read) (defScope s_read) [] [] f fd) : FnOk P w K mg base (L2.CX P w) 4 f fd ["text"] (spD K fun ds => told (a1 m_read ds)) := by
  refine fn_mk1 Fd sc_read m_read [.un, .un, .un] rfl rfl rfl (fun cdv A outer s H Er S0 hr x0 => ?_)
  unfold m_read
  exact (by exact (s_set (i := 1) (e_split (e_var 0 rfl) e_str) (fun d1 => (by exact (s_set (i := 2) (e_tup (ea_cons (e_call (k_count_told C) (hr.mono (by first | decide | omega)) (ea_cons (e_ix (hu_of hr) (E.r (e_var 1 rfl)) (E.r e_int)) ea_nil)) (ea_cons (e_lst ea_nil) ea_nil))) (fun d2 => (by exact (s_for (o' := (fun (t : D) (al_ : Al) => ([.is x0, .is d1, .is t, .un], []))) (is := [3]) d2 (ei_val (e_slice (E.r (e_var 1 rfl)) (eo_some e_int) eo_none)) (tj_name sc_read.nd rfl (Or.inl rfl)) (alN _ [], al0) (aok an_nil) (Wk.same (Wk.same (Wk.same (Wk.same Wk.nil)))) List.Sublist.slnil (fun ds t3 al4 hal4 => sj1 (fun i5 => (by exact (s_set (i := 2) (e_call (k_with_switch C) (hr.mono (by first | decide | omega)) (ea_cons (e_var 2 rfl) (ea_cons (e_var 3 rfl) ea_nil))) (fun d6 => (by exact (s_end (alN _ [], al0) (aok an_nil) (Wk.same (Wk.same (Wk.same (Wk.un Wk.nil)))) List.Sublist.slnil))) sc_read.nd rfl (Or.inl rfl) trivial)))) (fun t7 al8 hal8 => (by exact (s_ret (al0, al0) (e_var 2 rfl) List.Sublist.slnil trivial))) trivial rfl (passes_of rfl)))) sc_read.nd rfl (Or.inl rfl) trivial))) sc_read.nd rfl (Or.inl rfl) trivial))
theorem k_read (C : Tx K mg) : Kn P w K mg base "read" 4 (fun ds => told (a1 m_read ds)) := by
  obtain ⟨fd, Fd⟩ := fd_read C
  exact ⟨_, fd, _, fn_read C Fd, g_read C, Fd.kp, (FunD.bindsN (ps := ["text"]) Fd fun _ _ _ _ _ _ us hl => match us, hl with | [_], _ => rfl)⟩

theorem exs_Same_NoBar_NoMeasure_NoRow_Same (C : Tx K mg) : ∀ k ∈ (["NoBar", "NoMeasure", "NoRow", "Same"] : List Str), PySem.W.exmOne K (.ref (He.ga K k)) (.ref (He.ga K "Same")) = some (decide (k ∈ (["Same"] : List Str))) := (al_cons (em_NoBar_Same C) (al_cons (em_NoMeasure_Same C) (al_cons (em_NoRow_Same C) (al_cons (em_Same_Same C) al_nil))))

theorem exs_NoBar_NoBar_NoMeasure_NoRow_Same (C : Tx K mg) : ∀ k ∈ (["NoBar", "NoMeasure", "NoRow", "Same"] : List Str), PySem.W.exmOne K (.ref (He.ga K k)) (.ref (He.ga K "NoBar")) = some (decide (k ∈ (["NoBar"] : List Str))) := (al_cons (em_NoBar_NoBar C) (al_cons (em_NoMeasure_NoBar C) (al_cons (em_NoRow_NoBar C) (al_cons (em_Same_NoBar C) al_nil))))

theorem exs_NoMeasure_NoBar_NoMeasure_NoRow_Same (C : Tx K mg) : ∀ k ∈ (["NoBar", "NoMeasure", "NoRow", "Same"] : List Str), PySem.W.exmOne K (.ref (He.ga K k)) (.ref (He.ga K "NoMeasure")) = some (decide (k ∈ (["NoMeasure"] : List Str))) := (al_cons (em_NoBar_NoMeasure C) (al_cons (em_NoMeasure_NoMeasure C) (al_cons (em_NoRow_NoMeasure C) (al_cons (em_Same_NoMeasure C) al_nil))))

theorem exs_NoRow_NoBar_NoMeasure_NoRow_Same (C : Tx K mg) : ∀ k ∈ (["NoBar", "NoMeasure", "NoRow", "Same"] : List Str), PySem.W.exmOne K (.ref (He.ga K k)) (.ref (He.ga K "NoRow")) = some (decide (k ∈ (["NoRow"] : List Str))) := (al_cons (em_NoBar_NoRow C) (al_cons (em_NoMeasure_NoRow C) (al_cons (em_NoRow_NoRow C) (al_cons (em_Same_NoRow C) al_nil))))

def m_law_class : D → Me := fun x0 =>
  (Res.bind (Res.ok (D.int 4)) fun d1 => (andThen (noB (tryM (Res.bind (Res.bind (Res.bind (Res.ok x0) fun x => Res.bind (Res.ok []) fun xs => Res.ok (x :: xs)) (fun ds => told (a1 m_read ds))) fun _ => (Res.ok (Fl.nx d1))) (hM ["NoBar", "NoMeasure", "NoRow", "Same"] ["NoRow"] (fun k => noX ((fun k_ => (Res.bind (Res.ok (D.int 0)) fun d5 => (Res.ok (Fl.nx d5)))) k)) (hM ["NoBar", "NoMeasure", "NoRow", "Same"] ["NoMeasure"] (fun k => noX ((fun k_ => (Res.bind (Res.ok (D.int 1)) fun d4 => (Res.ok (Fl.nx d4)))) k)) (hM ["NoBar", "NoMeasure", "NoRow", "Same"] ["NoBar"] (fun k => noX ((fun k_ => (Res.bind (Res.ok (D.int 2)) fun d3 => (Res.ok (Fl.nx d3)))) k)) (hM ["NoBar", "NoMeasure", "NoRow", "Same"] ["Same"] (fun k => noX ((fun k_ => (Res.bind (Res.ok (D.int 3)) fun d2 => (Res.ok (Fl.nx d2)))) k)) Res.exc)))))) fun t6 => (Res.bind (Res.ok t6) fun d => Res.ok (Fl.rt d ()))))
theorem sc__law_class : FnScope ["text", "found"] ["text"] (defScope s__law_class) := ⟨rfl, rfl, rfl, by decide +kernel, rfl, by decide +kernel, by decide +kernel⟩
theorem fn__law_class (C : Tx K mg) {f : Addr} {fd : FuncData} (Fd : FunD K "_law_class" "_law_class" (defArgs s__law_class) (defBody s__law_class) (defScope s__law_class) [] [] f fd) : FnOk P w K mg base (L2.CX P w) 5 f fd ["text"] (spD K fun ds => told (a1 m_law_class ds)) := by
  refine fn_mk1 Fd sc__law_class m_law_class [.un] rfl rfl rfl (fun cdv A outer s H Er S0 hr x0 => ?_)
  unfold m_law_class
  exact (by exact (s_set (i := 1) e_int (fun d1 => (by exact (s_tryM (o' := (fun (t : D) (al_ : Al) => ([.is x0, .is t], []))) (all := ["NoBar", "NoMeasure", "NoRow", "Same"]) (fun en_ pn_ xe_ W_ tk_ => (by exact (s_expr (e_call (k_read C) (hr.mono (by first | decide | omega)) (ea_cons (e_var 0 rfl) ea_nil)) (fun _ => (by exact (s_end (alN _ [], al0) (aok an_nil) (Wk.same (Wk.same Wk.nil)) List.Sublist.slnil))) ⟨rfl, rfl⟩))) (HdsS.cons (yes := ["NoRow"]) ⟨exs_NoRow_NoBar_NoMeasure_NoRow_Same C, fun k_ hk_ a_ oe_ pn_ hz_ hf_ => (by exact (s_set (i := 1) e_int (fun d5 => (by exact (s_end (alN _ [], al0) (aok an_nil) (Wk.same (Wk.same Wk.nil)) List.Sublist.slnil))) sc__law_class.nd rfl (Or.inl rfl) trivial))⟩ (g_NoRow C) rfl (by decide) (HdsS.cons (yes := ["NoMeasure"]) ⟨exs_NoMeasure_NoBar_NoMeasure_NoRow_Same C, fun k_ hk_ a_ oe_ pn_ hz_ hf_ => (by exact (s_set (i := 1) e_int (fun d4 => (by exact (s_end (alN _ [], al0) (aok an_nil) (Wk.same (Wk.same Wk.nil)) List.Sublist.slnil))) sc__law_class.nd rfl (Or.inl rfl) trivial))⟩ (g_NoMeasure C) rfl (by decide) (HdsS.cons (yes := ["NoBar"]) ⟨exs_NoBar_NoBar_NoMeasure_NoRow_Same C, fun k_ hk_ a_ oe_ pn_ hz_ hf_ => (by exact (s_set (i := 1) e_int (fun d3 => (by exact (s_end (alN _ [], al0) (aok an_nil) (Wk.same (Wk.same Wk.nil)) List.Sublist.slnil))) sc__law_class.nd rfl (Or.inl rfl) trivial))⟩ (g_NoBar C) rfl (by decide) (HdsS.cons (yes := ["Same"]) ⟨exs_Same_NoBar_NoMeasure_NoRow_Same C, fun k_ hk_ a_ oe_ pn_ hz_ hf_ => (by exact (s_set (i := 1) e_int (fun d2 => (by exact (s_end (alN _ [], al0) (aok an_nil) (Wk.same (Wk.same Wk.nil)) List.Sublist.slnil))) sc__law_class.nd rfl (Or.inl rfl) trivial))⟩ (g_Same C) rfl (by decide) HdsS.nil)))) (fun t6 al7 hal7 => (by exact (s_ret (al0, al0) (e_var 1 rfl) List.Sublist.slnil trivial))) trivial))) sc__law_class.nd rfl (Or.inl rfl) trivial))
theorem k__law_class (C : Tx K mg) : Kn P w K mg base "_law_class" 5 (fun ds => told (a1 m_law_class ds)) := by
  obtain ⟨fd, Fd⟩ := fd__law_class C
  exact ⟨_, fd, _, fn__law_class C Fd, g__law_class C, Fd.kp, (FunD.bindsN (ps := ["text"]) Fd fun _ _ _ _ _ _ us hl => match us, hl with | [_], _ => rfl)⟩

def m_law_told : D → D → Me := fun x0 x1 =>
  (Res.bind (Res.bind (Res.bind (Res.bind (Res.bind (Res.ok x0) (D.isT "tuple")) asB) fun c => Res.ok (!c)) fun c => if c = true then Res.ok true else (Res.bind (Res.bind (Res.bind (Res.ok x0) fun x => Res.bind (Res.ok x1) fun y => D.ne x y) asB) fun c => if c = true then Res.ok true else (Res.bind (Res.bind (Res.bind (Res.ok x0) fun x => Res.bind (Res.ok (D.int 0)) fun y => D.ix x y) (D.isT "bool")) asB))) fun k => if k = true then (Res.bind (Res.ok (D.bl false)) fun d => Res.ok (Fl.rt d ())) else (Res.bind (Res.bind (Res.bind (Res.ok x0) fun x => Res.bind (Res.ok (D.int 1)) fun y => D.ix x y) D.items) fun ds => andThen (loop ds () fun d t1 => Res.bind (one d) fun xs => un1 (fun i3 => (Res.bind (Res.bind (Res.bind (Res.ok i3) fun x => Res.bind (Res.bind (Res.ok (D.int 1)) asI) fun l => Res.bind (Res.ok none) fun h => D.sliceI x l h) D.items) fun ds => andThen (loop ds () fun d t4 => Res.bind (one d) fun xs => un1 (fun i6 => (Res.bind (Res.bind (Res.bind (Res.ok i6) (D.isT "bool")) asB) fun k => if k = true then (Res.bind (Res.ok (D.bl false)) fun d => Res.ok (Fl.rt d ())) else (Res.ok (Fl.nx ())))) xs) fun t7 => (Res.ok (Fl.nx ())))) xs) fun t9 => (Res.bind (Res.ok (D.bl true)) fun d => Res.ok (Fl.rt d ()))))
theorem sc__law_told : FnScope ["found", "yard", "switch", "bar"] ["found", "yard"] (defScope s__law_told) := ⟨rfl, rfl, rfl, by decide +kernel, rfl, by decide +kernel, by decide +kernel⟩
theorem fn__law_told (C : Tx K mg) {f : Addr} {fd : FuncData} (Fd : FunD K "_law_told" "_law_told" (defArgs s__law_told) (defBody s__law_told) (defScope s__law_told) [] [] f fd) : FnOk P w K mg base (L2.CX P w) 1 f fd ["found", "yard"] (spD K fun ds => told (a2 m_law_told ds)) := by
  refine fn_mk2 Fd sc__law_told m_law_told [.un, .un] rfl rfl rfl (fun cdv A outer s H Er S0 hr x0 x1 => ?_)
  unfold m_law_told
  exact (by exact (s_if (t_w (tw_or (t_not (t_val (e_isT (g_isinstance C) (g_tuple C) (E.r (e_var 0 rfl))))) (tw_or (t_cmp (opD_ne hr.units) (E.r (e_var 0 rfl)) (E.r (e_var 1 rfl))) (tw_or1 (t_val (e_isT (g_isinstance C) (g_bool C) (E.r (e_ix (hu_of hr) (E.r (e_var 0 rfl)) (E.r e_int))))))))) (by exact (s_ret (al0, al0) e_bl List.Sublist.slnil trivial)) (by exact (s_more (by exact (s_for (o' := (fun (t : Unit) (al_ : Al) => ([.is x0, .is x1, .un, .un], []))) (is := [2]) () (ei_val (e_ix (hu_of hr) (E.r (e_var 0 rfl)) (E.r e_int))) (tj_name sc__law_told.nd rfl (Or.inl rfl)) (alN _ [], al0) (aok an_nil) (Wk.same (Wk.same (Wk.same (Wk.same Wk.nil)))) List.Sublist.slnil (fun ds t1 al2 hal2 => sj1 (fun i3 => (by exact (s_for (o' := (fun (t : Unit) (al_ : Al) => ([.is x0, .is x1, .is i3, .un], []))) (is := [3]) () (ei_val (e_slice (E.r (e_var 2 rfl)) (eo_some e_int) eo_none)) (tj_name sc__law_told.nd rfl (Or.inl rfl)) (alN _ [], al0) (aok an_nil) (Wk.same (Wk.same (Wk.same (Wk.same Wk.nil)))) List.Sublist.slnil (fun ds t4 al5 hal5 => sj1 (fun i6 => (by exact (s_if (t_val (e_isT (g_isinstance C) (g_bool C) (E.r (e_var 3 rfl)))) (by exact (s_ret (al0, al0) e_bl List.Sublist.slnil trivial)) (by exact (s_more (by exact (s_end (alN _ [], al0) (aok an_nil) (Wk.same (Wk.same (Wk.same (Wk.un Wk.nil)))) List.Sublist.slnil)))) trivial)))) (fun t7 al8 hal8 => (by exact (s_end (alN _ [], al0) (aok an_nil) (Wk.same (Wk.same (Wk.un (Wk.same Wk.nil)))) List.Sublist.slnil))) trivial rfl (passes_of rfl))))) (fun t9 al10 hal10 => (by exact (s_ret (al0, al0) e_bl List.Sublist.slnil trivial))) trivial rfl (passes_of rfl))))) trivial))
theorem k__law_told (C : Tx K mg) : Kn P w K mg base "_law_told" 1 (fun ds => told (a2 m_law_told ds)) := by
  obtain ⟨fd, Fd⟩ := fd__law_told C
  exact ⟨_, fd, _, fn__law_told C Fd, g__law_told C, Fd.kp, (FunD.bindsN (ps := ["found", "yard"]) Fd fun _ _ _ _ _ _ us hl => match us, hl with | [_, _], _ => rfl)⟩

def m_law : D → Me := fun x0 =>
  (Res.bind (Res.bind (Res.bind (Res.ok x0) fun x => Res.bind (Res.ok none) fun l => Res.bind (Res.bind (Res.ok (D.int 63)) asI) fun h => D.sliceI x l h) D.items) fun ds => andThen (loop ds () fun d t1 => Res.bind (one d) fun xs => un1 (fun i3 => (Res.bind (Res.bind (Res.bind (Res.ok i3) fun x => Res.bind (Res.ok []) fun xs => Res.ok (x :: xs)) (fun ds => told (a1 m_law_writing ds))) fun d4 => (Res.bind (Res.bind (Res.bind (Res.ok d4) fun x => Res.bind (Res.ok []) fun xs => Res.ok (x :: xs)) (fun ds => told (a1 m_law_number ds))) fun d5 => (Res.bind (Res.bind (Res.bind (Res.bind (Res.bind (Res.ok i3) fun x => Res.bind (Res.ok (D.int 39373)) fun y => D.mul x y) fun x => Res.bind (Res.ok (D.int 2147483629)) fun y => D.mod x y) fun x => Res.bind (Res.ok (D.int 7)) fun y => D.mod x y) fun x => Res.bind (Res.ok (D.int 1)) fun y => D.sub x y) fun d6 => (Res.bind (Res.bind (Res.bind (Res.bind (Res.bind (Res.bind (Res.ok (D.str "breaker")) fun x => Res.bind (Res.bind (Res.ok (D.str "splitter")) fun x => Res.bind (Res.ok []) fun xs => Res.ok (x :: xs)) fun xs => Res.ok (x :: xs)) mkLst) fun x => Res.bind (Res.bind (Res.bind (Res.bind (Res.ok d6) fun x => Res.bind (Res.ok (D.int 3)) fun y => D.gt x y) fun x => Res.bind (Res.ok []) fun xs => Res.ok (x :: xs)) (ap1 D.int1)) fun y => D.ix x y) fun x => Res.bind (Res.bind (Res.bind (Res.bind (Res.ok d6) fun x => Res.bind (Res.bind (Res.ok (D.int 0)) fun x => Res.bind (Res.ok []) fun xs => Res.ok (x :: xs)) fun xs => Res.ok (x :: xs)) (ap2 D.max2)) fun x => Res.bind (Res.bind (Res.ok d4) fun x => Res.bind (Res.bind (Res.ok d5) fun x => Res.bind (Res.ok []) fun xs => Res.ok (x :: xs)) fun xs => Res.ok (x :: xs)) fun xs => Res.ok (x :: xs)) fun xs => Res.ok (x :: xs)) (fun ds => told (a4 m_law_row ds))) fun d => Res.bind ((untup 2) d) (un2 (fun d7 d8 => (Res.bind (Res.bind (Res.ok (D.str "bars 10\n")) fun x => Res.bind (Res.ok d7) fun y => D.add x y) fun d9 => (Res.bind (Res.bind (Res.bind (Res.ok (D.int 10)) fun x => Res.bind (Res.bind (Res.bind (Res.bind (Res.ok d8) fun x => Res.bind (Res.ok []) fun xs => Res.ok (x :: xs)) mkLst) fun x => Res.bind (Res.ok []) fun xs => Res.ok (x :: xs)) fun xs => Res.ok (x :: xs)) mkTup) fun d10 => (Res.bind (Res.bind (Res.bind (Res.bind (Res.ok (D.int 2)) fun x => Res.bind (Res.bind (Res.ok (D.int 4)) fun x => Res.bind (Res.ok []) fun xs => Res.ok (x :: xs)) fun xs => Res.ok (x :: xs)) mkLst) fun x => Res.bind (Res.bind (Res.bind (Res.bind (Res.ok d5) fun x => Res.bind (Res.ok (D.int 10)) fun y => D.lt x y) fun x => Res.bind (Res.ok []) fun xs => Res.ok (x :: xs)) (ap1 D.int1)) fun y => D.ix x y) fun d11 => (Res.bind (Res.bind (Res.bind (Res.bind (Res.bind (Res.bind (Res.ok d8) fun x => Res.bind (Res.ok []) fun xs => Res.ok (x :: xs)) (ap1 D.len)) fun x => Res.bind (Res.ok (D.int 3)) fun y => D.eq x y) asB) fun c => if c = true then (Res.bind (Res.bind (Res.bind (Res.ok d8) fun x => Res.bind (Res.ok (D.int 1)) fun y => D.ix x y) fun x => Res.bind (Res.bind (Res.ok d8) fun x => Res.bind (Res.ok (D.int 2)) fun y => D.ix x y) fun y => D.eq x y) asB) else Res.ok false) fun k => andThen (if k = true then (Res.bind (Res.ok (D.int 3)) fun d12 => (Res.ok (Fl.nx d12))) else (Res.ok (Fl.nx d11))) fun t13 => (Res.bind (Res.bind (Res.bind (Res.ok d6) fun x => Res.bind (Res.ok (D.int 0)) fun y => D.lt x y) asB) fun k => andThen (if k = true then (Res.bind (Res.bind (Res.ok (D.str "bars ")) fun x => Res.bind (Res.ok d4) fun y => D.add x y) fun d15 => (Res.bind (Res.bind (Res.bind (Res.ok d5) fun x => Res.bind (Res.bind (Res.bind (Res.ok []) mkLst) fun x => Res.bind (Res.ok []) fun xs => Res.ok (x :: xs)) fun xs => Res.ok (x :: xs)) mkTup) fun d16 => (Res.bind (Res.bind (Res.bind (Res.bind (Res.ok (D.int 1)) fun x => Res.bind (Res.bind (Res.ok (D.int 4)) fun x => Res.bind (Res.ok []) fun xs => Res.ok (x :: xs)) fun xs => Res.ok (x :: xs)) mkLst) fun x => Res.bind (Res.bind (Res.bind (Res.bind (Res.ok (D.int 1)) fun x => Res.bind (Res.ok d5) fun y => Res.bind (Res.bind (D.le x y) asB) fun k => if k = true then Res.bind (Res.ok (D.int 10)) fun z => D.le y z else Res.ok (D.bl false)) fun x => Res.bind (Res.ok []) fun xs => Res.ok (x :: xs)) (ap1 D.int1)) fun y => D.ix x y) fun d17 => (Res.ok (Fl.nx (d15, d16, d17)))))) else (Res.ok (Fl.nx (d9, d10, t13)))) fun t18 => (Res.bind (Res.bind (Res.bind (Res.ok d5) fun x => Res.bind (Res.ok (D.int 0)) fun y => D.lt x y) asB) fun k => andThen (if k = true then (Res.bind (Res.ok (D.int 0)) fun d20 => (Res.ok (Fl.nx d20))) else (Res.ok (Fl.nx t18.2.2))) fun t21 => (Res.bind (Res.bind (Res.bind (Res.bind (Res.ok t21) fun x => Res.bind (Res.ok (D.int 4)) fun y => D.lt x y) asB) fun c => if c = true then (Res.bind (Res.bind (Res.bind (Res.bind (Res.ok t18.1) fun x => Res.bind (Res.ok []) fun xs => Res.ok (x :: xs)) (fun ds => told (a1 m_law_class ds))) fun x => Res.bind (Res.ok t21) fun y => D.ne x y) asB) else Res.ok false) fun k => if k = true then (Res.bind (Res.ok (D.bl false)) fun d => Res.ok (Fl.rt d ())) else (Res.bind (Res.bind (Res.bind (Res.bind (Res.ok t21) fun x => Res.bind (Res.ok (D.int 4)) fun y => D.eq x y) asB) fun c => if c = true then (Res.bind (Res.bind (Res.bind (Res.bind (Res.bind (Res.bind (Res.ok t18.1) fun x => Res.bind (Res.ok []) fun xs => Res.ok (x :: xs)) (fun ds => told (a1 m_read ds))) fun x => Res.bind (Res.bind (Res.ok t18.2.1) fun x => Res.bind (Res.ok []) fun xs => Res.ok (x :: xs)) fun xs => Res.ok (x :: xs)) (fun ds => told (a2 m_law_told ds))) asB) fun c => Res.ok (!c)) else Res.ok false) fun k => if k = true then (Res.bind (Res.ok (D.bl false)) fun d => Res.ok (Fl.rt d ())) else (Res.ok (Fl.nx ()))))))))))))))))) xs) fun t23 => (Res.bind (Res.bind (Res.bind (Res.bind (Res.bind (Res.bind (Res.bind (Res.ok (D.str "bars ")) fun x => Res.bind (Res.bind (Res.ok (D.str "7")) fun x => Res.bind (Res.ok (D.int 5000)) fun y => D.mul x y) fun y => D.add x y) fun x => Res.bind (Res.ok []) fun xs => Res.ok (x :: xs)) (fun ds => told (a1 m_law_class ds))) fun x => Res.bind (Res.ok (D.int 0)) fun y => D.eq x y) asB) fun c => if c = true then (Res.bind (Res.bind (Res.bind (Res.bind (Res.ok (D.str "bars 10\nfeed ")) fun x => Res.bind (Res.bind (Res.ok (D.str "0")) fun x => Res.bind (Res.ok (D.int 5000)) fun y => D.mul x y) fun y => D.add x y) fun x => Res.bind (Res.ok []) fun xs => Res.ok (x :: xs)) (fun ds => told (a1 m_law_class ds))) fun x => Res.bind (Res.ok (D.int 0)) fun y => D.eq x y) else Res.ok (D.bl false)) fun d => Res.ok (Fl.rt d ())))
theorem sc_law : FnScope ["script", "cell", "word", "number", "at", "text", "yard", "due", "row", "switch"] ["script"] (defScope s_law) := ⟨rfl, rfl, rfl, by decide +kernel, rfl, by decide +kernel, by decide +kernel⟩
theorem fn_law (C : Tx K mg) {f : Addr} {fd : FuncData} (Fd : FunD K "law" "law" (defArgs s_law) (defBody s_law) (defScope s_law) [] [] f fd) : FnOk P w K mg base (L2.CX P w) 6 f fd ["script"] (spD K fun ds => told (a1 m_law ds)) := by
  refine fn_mk1 Fd sc_law m_law [.un, .un, .un, .un, .un, .un, .un, .un, .un] rfl rfl rfl (fun cdv A outer s H Er S0 hr x0 => ?_)
  unfold m_law
  exact (by exact (s_for (o' := (fun (t : Unit) (al_ : Al) => ([.is x0, .un, .un, .un, .un, .un, .un, .un, .un, .un], []))) (is := [1]) () (ei_val (e_slice (E.r (e_var 0 rfl)) eo_none (eo_some e_int))) (tj_name sc_law.nd rfl (Or.inl rfl)) (alN _ [], al0) (aok an_nil) (Wk.same (Wk.same (Wk.same (Wk.same (Wk.same (Wk.same (Wk.same (Wk.same (Wk.same (Wk.same Wk.nil)))))))))) List.Sublist.slnil (fun ds t1 al2 hal2 => sj1 (fun i3 => (by exact (s_set (i := 2) (e_call (k__law_writing C) (hr.mono (by first | decide | omega)) (ea_cons (e_var 1 rfl) ea_nil)) (fun d4 => (by exact (s_set (i := 3) (e_call (k__law_number C) (hr.mono (by first | decide | omega)) (ea_cons (e_var 2 rfl) ea_nil)) (fun d5 => (by exact (s_set (i := 4) (e_bin opD_sub (E.r (e_bin opD_mod (E.r (e_bin opD_mod (E.r (e_bin opD_mul (E.r (e_var 1 rfl)) (E.r e_int))) (E.r e_int))) (E.r e_int))) (E.r e_int)) (fun d6 => (by exact (s_tup (is := [8, 9]) (e_call (k__law_row C) (hr.mono (by first | decide | omega)) (ea_cons (e_ix (hu_of hr) (E.r (e_lst (ea_cons e_str (ea_cons e_str ea_nil)))) (E.r (e_callT callD_int (g_int C) (ear_cons (E.r (e_cmp opD_gt (E.r (e_var 4 rfl)) (E.r e_int))) ear_nil)))) (ea_cons (e_callB (callD_max2 rfl) (g_max C) (ear_cons (E.r (e_var 4 rfl)) (ear_cons (E.r e_int) ear_nil))) (ea_cons (e_var 2 rfl) (ea_cons (e_var 3 rfl) ea_nil))))) (tj_tup rfl (tjs_cons sc_law.nd rfl (Or.inl rfl) (tjs_cons sc_law.nd rfl (Or.inl rfl) tjs_nil))) (fun ds => sj2 (fun d7 d8 => (by exact (s_set (i := 5) (e_bin opD_add (E.r e_str) (E.r (e_var 8 rfl))) (fun d9 => (by exact (s_set (i := 6) (e_tup (ea_cons e_int (ea_cons (e_lst (ea_cons (e_var 9 rfl) ea_nil)) ea_nil))) (fun d10 => (by exact (s_set (i := 7) (e_ix (hu_of hr) (E.r (e_lst (ea_cons e_int (ea_cons e_int ea_nil)))) (E.r (e_callT callD_int (g_int C) (ear_cons (E.r (e_cmp opD_lt (E.r (e_var 3 rfl)) (E.r e_int))) ear_nil)))) (fun d11 => (by exact (s_ifJ (o' := (fun (t : D) (al_ : Al) => ([.is x0, .is i3, .is d4, .is d5, .is d6, .is d9, .is d10, .is t, .is d7, .is d8], []))) (t_w (tw_and (t_cmp (opD_eq hr.units) (E.r (e_callB callD_len (g_len C) (ear_cons (E.r (e_var 9 rfl)) ear_nil))) (E.r e_int)) (tw_and1 (t_cmp (opD_eq hr.units) (E.r (e_ix (hu_of hr) (E.r (e_var 9 rfl)) (E.r e_int))) (E.r (e_ix (hu_of hr) (E.r (e_var 9 rfl)) (E.r e_int))))))) (by exact (s_set (i := 7) e_int (fun d12 => (by exact (s_end (alN _ [], al0) (aok an_nil) (Wk.same (Wk.same (Wk.same (Wk.same (Wk.same (Wk.same (Wk.same (Wk.same (Wk.same (Wk.same Wk.nil)))))))))) List.Sublist.slnil))) sc_law.nd rfl (Or.inl rfl) trivial)) (by exact (s_end (alN _ [], al0) (aok an_nil) (Wk.same (Wk.same (Wk.same (Wk.same (Wk.same (Wk.same (Wk.same (Wk.same (Wk.same (Wk.same Wk.nil)))))))))) List.Sublist.slnil)) (fun t13 al14 hal14 => (by exact (s_ifJ (o' := (fun (t : D × D × D) (al_ : Al) => ([.is x0, .is i3, .is d4, .is d5, .is d6, .is t.1, .is t.2.1, .is t.2.2, .is d7, .is d8], []))) (t_cmp opD_lt (E.r (e_var 4 rfl)) (E.r e_int)) (by exact (s_set (i := 5) (e_bin opD_add (E.r e_str) (E.r (e_var 2 rfl))) (fun d15 => (by exact (s_set (i := 6) (e_tup (ea_cons (e_var 3 rfl) (ea_cons (e_lst ea_nil) ea_nil))) (fun d16 => (by exact (s_set (i := 7) (e_ix (hu_of hr) (E.r (e_lst (ea_cons e_int (ea_cons e_int ea_nil)))) (E.r (e_callT callD_int (g_int C) (ear_cons (E.r (e_chain opD_le opD_le (E.r e_int) (E.r (e_var 3 rfl)) (E.r e_int))) ear_nil)))) (fun d17 => (by exact (s_end (alN _ [], al0) (aok an_nil) (Wk.same (Wk.same (Wk.same (Wk.same (Wk.same (Wk.same (Wk.same (Wk.same (Wk.same (Wk.same Wk.nil)))))))))) List.Sublist.slnil))) sc_law.nd rfl (Or.inl rfl) trivial))) sc_law.nd rfl (Or.inl rfl) trivial))) sc_law.nd rfl (Or.inl rfl) trivial)) (by exact (s_end (alN _ [], al0) (aok an_nil) (Wk.same (Wk.same (Wk.same (Wk.same (Wk.same (Wk.same (Wk.same (Wk.same (Wk.same (Wk.same Wk.nil)))))))))) List.Sublist.slnil)) (fun t18 al19 hal19 => (by exact (s_ifJ (o' := (fun (t : D) (al_ : Al) => ([.is x0, .is i3, .is d4, .is d5, .is d6, .is t18.1, .is t18.2.1, .is t, .is d7, .is d8], []))) (t_cmp opD_lt (E.r (e_var 3 rfl)) (E.r e_int)) (by exact (s_set (i := 7) e_int (fun d20 => (by exact (s_end (alN _ [], al0) (aok an_nil) (Wk.same (Wk.same (Wk.same (Wk.same (Wk.same (Wk.same (Wk.same (Wk.same (Wk.same (Wk.same Wk.nil)))))))))) List.Sublist.slnil))) sc_law.nd rfl (Or.inl rfl) trivial)) (by exact (s_end (alN _ [], al0) (aok an_nil) (Wk.same (Wk.same (Wk.same (Wk.same (Wk.same (Wk.same (Wk.same (Wk.same (Wk.same (Wk.same Wk.nil)))))))))) List.Sublist.slnil)) (fun t21 al22 hal22 => (by exact (s_if (t_w (tw_and (t_cmp opD_lt (E.r (e_var 7 rfl)) (E.r e_int)) (tw_and1 (t_cmp (opD_ne hr.units) (E.r (e_call (k__law_class C) (hr.mono (by first | decide | omega)) (ea_cons (e_var 5 rfl) ea_nil))) (E.r (e_var 7 rfl)))))) (by exact (s_ret (al0, al0) e_bl List.Sublist.slnil trivial)) (by exact (s_more (by exact (s_if (t_w (tw_and (t_cmp (opD_eq hr.units) (E.r (e_var 7 rfl)) (E.r e_int)) (tw_and1 (t_not (t_val (e_call (k__law_told C) (hr.mono (by first | decide | omega)) (ea_cons (e_call (k_read C) (hr.mono (by first | decide | omega)) (ea_cons (e_var 5 rfl) ea_nil)) (ea_cons (e_var 6 rfl) ea_nil)))))))) (by exact (s_ret (al0, al0) e_bl List.Sublist.slnil trivial)) (by exact (s_more (by exact (s_end (alN _ [], al0) (aok an_nil) (Wk.same (Wk.un (Wk.un (Wk.un (Wk.un (Wk.un (Wk.un (Wk.un (Wk.un (Wk.un Wk.nil)))))))))) List.Sublist.slnil)))) trivial)))) trivial))) trivial))) trivial))) trivial))) sc_law.nd rfl (Or.inl rfl) trivial))) sc_law.nd rfl (Or.inl rfl) trivial))) sc_law.nd rfl (Or.inl rfl) trivial)))) trivial))) sc_law.nd rfl (Or.inl rfl) trivial))) sc_law.nd rfl (Or.inl rfl) trivial))) sc_law.nd rfl (Or.inl rfl) trivial)))) (fun t23 al24 hal24 => (by exact (s_ret (al0, al0) (e_and (e_cmp (opD_eq hr.units) (E.r (e_call (k__law_class C) (hr.mono (by first | decide | omega)) (ea_cons (e_bin opD_add (E.r e_str) (E.r (e_bin opD_mul (E.r e_str) (E.r e_int)))) ea_nil))) (E.r e_int)) (e_one (e_cmp (opD_eq hr.units) (E.r (e_call (k__law_class C) (hr.mono (by first | decide | omega)) (ea_cons (e_bin opD_add (E.r e_str) (E.r (e_bin opD_mul (E.r e_str) (E.r e_int)))) ea_nil))) (E.r e_int)))) List.Sublist.slnil trivial))) trivial rfl (passes_of rfl)))
theorem k_law (C : Tx K mg) : Kn P w K mg base "law" 6 (fun ds => told (a1 m_law ds)) := by
  obtain ⟨fd, Fd⟩ := fd_law C
  exact ⟨_, fd, _, fn_law C Fd, g_law C, Fd.kp, (FunD.bindsN (ps := ["script"]) Fd fun _ _ _ _ _ _ us hl => match us, hl with | [_], _ => rfl)⟩

end
end G
end RL

open PySem L2
namespace RL
namespace G
theorem t_num (w : List Nat) (hl : w.length ≤ sizeLine) : told (m_number_of (.str (mkS w))) = (match numV w with | some n => .ok (.int (n : Int)) | none => .exc "NoRow") := by
  unfold m_number_of
  simp only [Res.ok_bind, v_ap1, v_lenS hl, v_le, v_asB]
  by_cases h1 : 1 ≤ w.length
  · have y1 : (1 : Int) ≤ (w.length : Int) := by omega
    by_cases h2 : w.length ≤ 9
    · have y2 : (w.length : Int) ≤ 9 := by omega
      simp only [y1, y2, decide_true, if_true, Res.ok_bind, v_asB, Bool.not_true, Bool.false_eq_true, if_false, v_itemsS]
      have e1 : ∀ (l : List Nat) (f : Unit → Me), andThen (loop (l.map fun c => D.str (mkS [c])) () fun d t1 => Res.bind (one d) fun xs => un1 (fun i3 => (Res.bind (Res.bind (D.nin i3 (.str "0123456789")) asB) fun k => if k = true then (Res.exc "NoRow" : Res (Fl Unit Unit Unit)) else (Res.ok (Fl.nx ())))) xs) f = if l.all isF = true then f () else .exc "NoRow" := by
        intro l f
        induction l with
        | nil => rfl
        | cons c l ih =>
          rw [List.map_cons, List.all_cons]
          unfold loop
          simp only [v_one, Res.ok_bind, v_un1, v_ninF, v_asB]
          cases isF c with
          | true => exact ih
          | false => rfl
      rw [e1]
      unfold numV
      rw [if_pos (show (decide (1 ≤ w.length) && decide (w.length ≤ 9)) = true by simp [h1, h2])]
      by_cases h3 : w.all isF = true
      · rw [if_pos h3, if_pos h3]
        cases w with
        | nil => simp at h1
        | cons c r =>
          have e2 : atI (c :: r) (0 : Int) = some c := atI_nat (i := 0)
          have e3 : ("0" : Str) = mkS [48] := by decide +kernel
          simp only [v_ixS hl, e2, Option.map_some, v_ofOpt_some, Res.ok_bind, e3, v_eqS, v_neS, v_asB, mkS_eq, v_int1S (all_F.mp h3) (by simp) (Nat.le_trans h2 (by decide)), v_told_rt, List.head?_cons, Option.some.injEq]
          by_cases h4 : c = 48
          · subst h4
            by_cases h5 : r = []
            · subst h5; rfl
            · have h6 : ¬ (48 :: r = [48]) := by simp [h5]
              have h7 : ([48] : List Nat) = [48] := rfl
              simp only [decide_true, if_true, h6, decide_false, Bool.not_false, Bool.and_true, v_told_exc]
              rfl
          · have h6 : ¬ ([c] = [48]) := by simp [h4]
            simp only [h6, h4, decide_false, Bool.false_eq_true, if_false, Bool.false_and]
            rfl
      · rw [if_neg h3, if_neg h3, v_told_exc]
    · have y2 : ¬ (w.length : Int) ≤ 9 := by omega
      simp only [y1, y2, decide_true, decide_false, if_true, Res.ok_bind, v_asB, Bool.not_false, v_told_exc]
      unfold numV
      rw [if_neg (by simp [h1, h2])]
  · have y1 : ¬ (1 : Int) ≤ (w.length : Int) := by omega
    simp only [y1, decide_false, Bool.false_eq_true, if_false, Res.ok_bind, v_asB, Bool.not_false, if_true, v_told_exc]
    unfold numV
    rw [if_neg (by simp [h1])]
theorem t_cntR (l : List Nat) (hl : l.length + 2 ≤ sizeLine) : told (m_count_told (.str (mkS l))) = (cntR (sp 32 l)).bind fun n => .ok (.int (n : Int)) := by
  unfold m_count_told
  have hle : ∀ p ∈ sp 32 l, p.length ≤ sizeLine := fun p hp => Nat.le_trans (sp_le hp) (by omega)
  simp only [Res.ok_bind, v_asS, v_splitB (x := mkS l) (by rw [mkS_len]; exact hl), tl_mkS]
  generalize sp 32 l = ws at hle ⊢
  have no : ∀ (l : List (List Nat)), l.length ≠ 2 → ¬ ((l.length : Int) = 2) := fun l h => by omega
  have bad : ∀ (l : List (List Nat)), l.length ≠ 2 → cntR l = .exc "NoRow" := fun l h => by
    match l, h with
    | [], _ => rfl
    | [_], _ => rfl
    | [_, _], h => exact absurd rfl h
    | _ :: _ :: _ :: _, _ => rfl
  by_cases h2 : ws.length = 2
  · match ws, h2 with
    | [k, a], _ =>
      have ha : a.length ≤ sizeLine := hle a (by simp)
      simp only [List.map_cons, List.map_nil, v_ap1, v_len_lst, Res.ok_bind, v_neI, v_asB, v_ixL, v_atI0, v_atI1, v_ofOpt_some, v_neS, eq_mk, List.length_cons, List.length_nil]
      simp only [show ((0 + 1 + 1 : Nat) : Int) = 2 from rfl, decide_true, Bool.not_true, Bool.false_eq_true, if_false, v_a1, t_num a ha]
      unfold cntR
      by_cases hk : k = wd "bars"
      · simp only [hk, decide_true, Bool.not_true, Bool.false_eq_true, if_false, if_true]
        cases numV a with
        | none => rfl
        | some n =>
          simp only [Res.ok_bind, v_lt, v_asB]
          by_cases h1 : n < 1
          · have y1 : (n : Int) < 1 := by omega
            simp only [y1, h1, decide_true, if_true, Res.ok_bind, true_or, v_told_exc, Res.exc_bind]
            try rfl
          · have y1 : ¬ (n : Int) < 1 := by omega
            by_cases h3 : 10 < n
            · have y3 : (10 : Int) < n := by omega
              simp only [y1, h1, y3, h3, decide_true, decide_false, Bool.false_eq_true, Res.ok_bind, or_true, Res.exc_bind]
              try rfl
            · have y3 : ¬ (10 : Int) < n := by omega
              simp only [y1, h1, y3, h3, decide_false, Bool.false_eq_true, if_false, Res.ok_bind, or_false, v_told_rt]
      · simp only [hk, decide_false, Bool.not_false, if_true, if_false, v_told_exc, Res.exc_bind]
        try rfl
  · simp only [v_ap1, v_len_lst, List.length_map, Res.ok_bind, v_neI, v_asB, no _ h2, decide_false, Bool.not_false, if_true, v_told_exc, bad _ h2, Res.exc_bind]
theorem t_endsV (k : List Nat) : told (m_ends_of (.str (mkS k))) = .ok (.int (endsV k : Nat)) := by
  unfold m_ends_of endsV
  simp only [Res.ok_bind, v_eqS, v_asB, eq_mk]
  by_cases h1 : k = wd "feed"
  · simp only [h1, decide_true, if_true, Res.ok_bind, v_told_rt, true_or]; rfl
  · by_cases h2 : k = wd "earth"
    · simp only [h2, decide_true, if_true, Res.ok_bind, v_told_rt, or_true, ite_self]; rfl
    · by_cases h3 : k = wd "breaker"
      · simp only [h1, h2, decide_false, Bool.false_eq_true, if_false, Res.ok_bind, or_false]
        simp only [h3, decide_true, if_true, Res.ok_bind, v_told_rt, true_or]; rfl
      · by_cases h4 : k = wd "splitter"
        · simp only [h1, h2, h3, decide_false, Bool.false_eq_true, if_false, Res.ok_bind, or_false]
          simp only [h4, decide_true, if_true, Res.ok_bind, v_told_rt, or_true]; rfl
        · simp only [h1, h2, h3, h4, decide_false, Bool.false_eq_true, if_false, Res.ok_bind, or_false, v_told_rt]; rfl
theorem endsV_le (k : List Nat) : endsV k ≤ 2 := by
  unfold endsV
  split
  · decide
  · split <;> decide
theorem t_swR (n : Nat) (l : List Nat) (hl : l.length + 2 ≤ sizeLine) : told (m_switch_told (.int (n : Int)) (.str (mkS l))) = swR n (sp 32 l) := by
  unfold m_switch_told
  have hle : ∀ p ∈ sp 32 l, p.length ≤ sizeLine := fun p hp => Nat.le_trans (sp_le hp) (by omega)
  simp only [Res.ok_bind, v_asS, v_splitB (x := mkS l) (by rw [mkS_len]; exact hl), tl_mkS]
  have hne := sp_ne 32 l
  generalize sp 32 l = ws at hle hne ⊢
  have bad : ∀ (k : List Nat) (l : List (List Nat)), (endsV k = 0 ∨ l.length ≠ endsV k) → swR n (k :: l) = .exc "NoRow" := fun k l h => by
    match l, h with
    | [], _ => rfl
    | [a], h =>
      show (if endsV k = 1 then _ else Res.exc "NoRow") = _
      rw [if_neg (by
        rcases h with h | h
        · omega
        · exact fun z => h (by rw [z]; rfl))]
    | [a, b], h =>
      show (if endsV k = 2 then _ else Res.exc "NoRow") = _
      rw [if_neg (by
        rcases h with h | h
        · omega
        · exact fun z => h (by rw [z]; rfl))]
    | _ :: _ :: _ :: _, _ => rfl
  cases ws with
  | nil => exact absurd rfl hne
  | cons k r =>
    simp only [List.map_cons, v_ixL, v_atI0, v_ofOpt_some, Res.ok_bind, v_a1, t_endsV, v_eqI, v_asB, v_ap1, v_len_lst, v_addI, v_neI, List.length_cons, List.length_map, v_slice1, v_asI, v_items_lst]
    by_cases h0 : endsV k = 0
    · have y0 : ((endsV k : Nat) : Int) = 0 := by omega
      simp only [y0, decide_true, if_true, Res.ok_bind, v_told_exc, bad k r (.inl h0)]
    · have y0 : ¬ ((endsV k : Nat) : Int) = 0 := by omega
      by_cases h1 : r.length = endsV k
      · have y1 : ((r.length + 1 : Nat) : Int) = 1 + ((endsV k : Nat) : Int) := by omega
        have h2 := endsV_le k
        simp only [y0, y1, decide_true, decide_false, Bool.not_true, Bool.false_eq_true, if_false, Res.ok_bind]
        have e8 : mkTup [D.str (mkS k)] = .ok (.tup [.str (mkS k)]) := id rfl
        match r, h1 with
        | [], h1 => exact absurd h1.symm h0
        | [a], h1 =>
          have h1 : endsV k = 1 := h1.symm
          have ha : a.length ≤ sizeLine := hle a (by simp)
          have c2 : decide (((1 : Nat) : Int) = 2) = false := by decide
          have sw : swR n [k, a] = (match numV a with
            | none => .exc "NoRow"
            | some x => if n ≤ x then .exc "NoBar" else .ok (.tup [.str (mkS k), .int (x : Int)])) := if_pos h1
          rw [sw]
          rw [v_compX _ _ (by show 1 < _; decide)]
          simp only [h1, List.map_cons, List.map_nil, mapE, v_a1, t_num a ha]
          cases numV a with
          | none => rfl
          | some x =>
            simp only [Res.ok_bind, List.nil_append, loop, v_one, v_un1, v_ge, v_asB]
            by_cases hx : n ≤ x
            · have hx' : (n : Int) ≤ (x : Int) := by omega
              simp only [hx, hx', decide_true, if_true, v_at_exc, v_told_exc]
              try rfl
            · have hx' : ¬ (n : Int) ≤ (x : Int) := by omega
              simp only [hx, hx', decide_false, Bool.false_eq_true, if_false, v_at_nx, c2, Res.ok_bind, e8, v_toTup]
              rw [addTT' (by simp)]
              try rfl
        | [a, b], h1 =>
          have h1 : endsV k = 2 := h1.symm
          have ha : a.length ≤ sizeLine := hle a (by simp)
          have hb : b.length ≤ sizeLine := hle b (by simp)
          have c2 : decide (((2 : Nat) : Int) = 2) = true := by decide
          have sw : swR n [k, a, b] = (match numV a with
            | none => .exc "NoRow"
            | some x => (match numV b with
              | none => .exc "NoRow"
              | some y => if n ≤ x then .exc "NoBar" else if n ≤ y then .exc "NoBar" else if x = y then .exc "Same" else .ok (.tup [.str (mkS k), .int (x : Int), .int (y : Int)]))) := if_pos h1
          rw [sw]
          rw [v_compX _ _ (by show 2 < _; decide)]
          simp only [h1, List.map_cons, List.map_nil, mapE, v_a1, t_num a ha, t_num b hb]
          cases numV a with
          | none => rfl
          | some x =>
            simp only [Res.ok_bind]
            cases numV b with
            | none => rfl
            | some y =>
              simp only [Res.ok_bind, List.nil_append, loop, v_one, v_un1, v_ge, v_asB]
              by_cases hx : n ≤ x
              · have hx' : (n : Int) ≤ (x : Int) := by omega
                simp only [hx, hx', decide_true, if_true, v_at_exc, v_told_exc]
                try rfl
              · have hx' : ¬ (n : Int) ≤ (x : Int) := by omega
                by_cases hy : n ≤ y
                · have hy' : (n : Int) ≤ (y : Int) := by omega
                  simp only [hx, hx', hy, hy', decide_true, decide_false, Bool.false_eq_true, if_false, if_true, v_at_exc, v_told_exc]
                  try rfl
                · have hy' : ¬ (n : Int) ≤ (y : Int) := by omega
                  simp only [hx, hx', hy, hy', decide_false, Bool.false_eq_true, if_false, v_at_nx, c2, if_true, Res.ok_bind, e8, v_toTup, v_ixL, v_atI0, v_atI1, v_ofOpt_some, v_eqI, v_asB]
                  by_cases hxy : x = y
                  · have hxy' : (x : Int) = (y : Int) := by omega
                    simp only [hxy, hxy', decide_true, if_true, v_told_exc]
                  · have hxy' : ¬ (x : Int) = (y : Int) := by omega
                    simp only [hxy, hxy', decide_false, Bool.false_eq_true, if_false]
                    rw [addTT' (by simp)]
                    try rfl
        | _ :: _ :: _ :: _, h1 => simp at h1; omega
      · have y1 : ¬ ((r.length + 1 : Nat) : Int) = 1 + ((endsV k : Nat) : Int) := by omega
        simp only [y0, y1, decide_false, Bool.not_false, Bool.false_eq_true, if_false, if_true, Res.ok_bind, v_told_exc, bad k r (.inr h1)]
theorem t_wsR (n : Nat) (acc : List D) (l : List Nat) (hl : l.length + 2 ≤ sizeLine) : told (m_with_switch (.tup [.int (n : Int), .lst acc]) (.str (mkS l))) = (wsR n acc l).bind fun a => .ok (.tup [.int (n : Int), .lst a]) := by
  unfold m_with_switch wsR
  simp only [Res.ok_bind, v_ixT, v_atI0, v_atI1, v_ofOpt_some, v_ap1, v_len_lst, v_ge, v_asB, v_a2, t_swR n l hl]
  by_cases h : 12 ≤ acc.length
  · have y : (12 : Int) ≤ (acc.length : Int) := by omega
    simp only [h, y, decide_true, if_true, v_told_exc, Res.exc_bind]
  · have y : ¬ (12 : Int) ≤ (acc.length : Int) := by omega
    simp only [h, y, decide_false, Bool.false_eq_true, if_false]
    cases swR n (sp 32 l) with
    | ok d =>
      have e2 : mkLst [d] = .ok (.lst [d]) := id rfl
      simp only [Res.ok_bind, e2]
      rw [v_addLL (Nat.le_trans (show acc.length + [d].length ≤ 13 by simp; omega) (by decide))]
      simp only [Res.ok_bind, v_mkTup2, v_told_rt]
    | exc k => rfl
    | stuck => rfl
theorem t_readR (l : List Nat) (hl : l.length + 2 ≤ sizeLine) : told (m_read (.str (mkS l))) = readR (sp 10 l) := by
  unfold m_read
  have hle : ∀ p ∈ sp 10 l, p.length + 2 ≤ sizeLine := fun p hp => Nat.le_trans (Nat.add_le_add_right (sp_le hp) 2) hl
  simp only [Res.ok_bind, v_asS, v_splitN (x := mkS l) (by rw [mkS_len]; exact hl), tl_mkS]
  have hne := sp_ne 10 l
  generalize sp 10 l = rows at hle hne ⊢
  cases rows with
  | nil => exact absurd rfl hne
  | cons r rs =>
    simp only [List.map_cons, v_ixL, v_atI0, v_ofOpt_some, Res.ok_bind, v_a1, t_cntR r (hle r (by simp)), v_mkLst0, v_slice1, v_asI, v_items_lst]
    show _ = (cntR (sp 32 r)).bind fun n => (rowsR n [] rs).bind fun l => Res.ok (D.tup [D.int (n : Int), D.lst l])
    cases cntR (sp 32 r) with
    | exc k => rfl
    | stuck => rfl
    | ok n =>
      simp only [Res.ok_bind, v_mkTup2]
      have hle' : ∀ p ∈ rs, p.length + 2 ≤ sizeLine := fun p hp => hle p (List.mem_cons_of_mem _ hp)
      have key : ∀ (rs : List (List Nat)) (acc : List D), (∀ p ∈ rs, p.length + 2 ≤ sizeLine) → told (andThen (loop (rs.map fun w => D.str (mkS w)) (D.tup [.int (n : Int), .lst acc]) fun d t3 => Res.bind (one d) fun xs => un1 (fun i5 => Res.bind (told (a2 m_with_switch [t3, i5])) fun d6 => (Res.ok (Fl.nx d6) : Res (Fl D D Unit))) xs) fun t7 => (Res.ok (Fl.rt t7 ()) : Me)) = (rowsR n acc rs).bind fun l => .ok (.tup [.int (n : Int), .lst l]) := by
        intro rs
        induction rs with
        | nil => intro acc _; rfl
        | cons r rs ih =>
          intro acc h
          rw [List.map_cons]
          unfold loop
          simp only [v_one, Res.ok_bind, v_un1, v_a2, t_wsR n acc r (h r (by simp))]
          show _ = ((wsR n acc r).bind fun acc' => rowsR n acc' rs).bind _
          cases wsR n acc r with
          | exc k => rfl
          | stuck => rfl
          | ok a => exact ih a fun p hp => h p (List.mem_cons_of_mem _ hp)
      exact key rs [] hle'
theorem t_writing (c : Int) : ∃ w : List Nat, w.length ≤ 20 ∧ 10 ∉ w ∧ told (m_law_writing (.int c)) = .ok (.str (mkS w)) := by
  have sl : ∀ {l : List Nat}, l.length ≤ 100 → l.length ≤ sizeLine := fun h => Nat.le_trans h (by decide)
  have ten : ∀ n, 10 ∉ nl n := fun n => nl_free (by decide)
  unfold m_law_writing
  simp only [Res.ok_bind, v_fdivP (j := 7) (by decide) (by decide), v_modP (j := 7) (by decide), v_eqI, v_lt, v_asB, v_pow9]
  generalize c / 7 = n
  have hr : 0 ≤ c % 7 ∧ c % 7 < 7 := ⟨Int.emod_nonneg _ (by decide), Int.emod_lt_of_pos _ (by decide)⟩
  generalize c % 7 = r at hr
  have p13 : ∀ i : Int, ∃ k : Nat, i % 13 = (k : Int) ∧ k < 13 := fun i => ⟨(i % 13).toNat, by omega, by omega⟩
  by_cases h0 : r = 0
  · obtain ⟨k, ek, hk⟩ : ∃ k : Nat, n % 1000000000 = (k : Int) ∧ k < 10 ^ 9 := ⟨(n % 1000000000).toNat, by omega, by omega⟩
    refine ⟨nl k, Nat.le_trans (nl_len hk) (by decide), ten k, ?_⟩
    simp only [h0, decide_true, if_true, Res.ok_bind, v_modP (j := 1000000000) (by decide), ek, v_ap1, v_str1i (i := (k : Int)) (by omega) (by omega), Int.toNat_natCast, v_told_rt]
  · by_cases h1 : r < 3
    · obtain ⟨k, ek, hk⟩ := p13 n
      refine ⟨nl k, Nat.le_trans (nl_len (by omega)) (by decide), ten k, ?_⟩
      simp only [h0, h1, decide_true, decide_false, Bool.false_eq_true, if_false, if_true, Res.ok_bind, v_modP (j := 13) (by decide), ek, v_ap1, v_str1i (i := (k : Int)) (by omega) (by omega), Int.toNat_natCast, v_told_rt]
    · by_cases h3 : r = 3
      · obtain ⟨k, ek, hk⟩ := p13 (n / 3)
        obtain ⟨z, ez, hz⟩ : ∃ z : Nat, n % 3 = (z : Int) ∧ z < 3 := ⟨(n % 3).toNat, by omega, by omega⟩
        have lk := nl_len (n := k) (by omega)
        have e0 : (.str "0" : D) = .str (mkS [48]) := by rw [str_mk "0"]; rfl
        refine ⟨List.replicate z 48 ++ nl k, by rw [List.length_append, List.length_replicate]; omega, ?_, ?_⟩
        · rw [List.mem_append, List.mem_replicate]
          rintro (h | h)
          · omega
          · exact ten k h
        · simp only [h0, h1, h3, decide_true, decide_false, Bool.false_eq_true, if_false, if_true, Res.ok_bind, v_modP (j := 13) (by decide), v_modP (j := 3) (by decide), v_fdivP (j := 3) (by decide) (by decide), ek, ez, v_ap1, v_str1i (i := (k : Int)) (by omega) (by omega), Int.toNat_natCast, e0, v_mulS 48 (n := z) (by omega)]
          rw [v_addS (by rw [List.length_replicate]; omega)]
          simp only [Res.ok_bind, v_told_rt, show (3 : Int) = 0 ↔ False by decide, show (3 : Int) < 3 ↔ False by decide, decide_false, Bool.false_eq_true, if_false]
      · by_cases h4 : r = 4
        · obtain ⟨k, ek, hk⟩ := p13 n
          obtain ⟨z, ez, hz⟩ : ∃ z : Nat, n / 13 % 11 = (z : Int) ∧ z < 11 := ⟨(n / 13 % 11).toNat, by omega, by omega⟩
          have lk := nl_len (n := k) (by omega)
          have e0 : (.str "1234567890" : D) = .str (mkS (wd "1234567890")) := str_mk _
          have l0 : (wd "1234567890").length = 10 := by decide +kernel
          have t0 : 10 ∉ wd "1234567890" := by decide +kernel
          generalize wd "1234567890" = g at e0 l0 t0
          have lg : (g.take z).length ≤ 10 := by rw [List.length_take]; omega
          refine ⟨g.take z ++ nl k, by rw [List.length_append]; omega, ?_, ?_⟩
          · rw [List.mem_append]
            rintro (h | h)
            · exact t0 (List.mem_of_mem_take h)
            · exact ten k h
          · simp only [h0, h1, h3, h4, decide_true, decide_false, Bool.false_eq_true, if_false, if_true, Res.ok_bind, v_modP (j := 13) (by decide), v_modP (j := 11) (by decide), v_fdivP (j := 13) (by decide) (by decide), ek, ez, v_ap1, v_str1i (i := (k : Int)) (by omega) (by omega), Int.toNat_natCast, e0, v_asI, v_sliceS (sl (l := g) (by omega)), cut_to]
            simp only [show (4 : Int) = 0 ↔ False by decide, show (4 : Int) < 3 ↔ False by decide, show (4 : Int) = 3 ↔ False by decide, decide_false, Bool.false_eq_true, if_false]
            rw [v_addS (by omega)]
            simp only [Res.ok_bind, v_told_rt]
        · obtain ⟨S, eS⟩ : ∃ S : Str, S = " !\"#$&'()*+,-./0123456789:;<=>?@ABCDEFGHIJKLMNOPQRSTUVWXYZ[\\]^_`abcdefghijklmnopqrstuvwxyz{|}~" := ⟨_, rfl⟩
          rw [← eS]
          have l0 : (wd S).length = 94 := by rw [eS]; decide +kernel
          have t0 : 10 ∉ wd S := by rw [eS]; decide +kernel
          have e0 : (.str S : D) = .str (mkS (wd S)) := str_mk _
          rw [e0]
          generalize wd S = g at l0 t0
          obtain ⟨k, ek, hk⟩ : ∃ k : Nat, n / 94 % 100 = (k : Int) ∧ k < 100 := ⟨(n / 94 % 100).toNat, by omega, by omega⟩
          obtain ⟨z, ez, hz⟩ : ∃ z : Nat, n % 94 = (z : Int) ∧ z < 94 := ⟨(n % 94).toNat, by omega, by omega⟩
          have lk := nl_len (n := k) (by omega)
          have hp : (0 : Int) < ((nl k).length : Int) + 1 := by omega
          have a1 := Int.emod_nonneg (n * 48271 % 2147483647) (show ((nl k).length : Int) + 1 ≠ 0 by omega)
          have a2 := Int.emod_lt_of_pos (n * 48271 % 2147483647) hp
          simp only [h0, h1, h3, h4, decide_false, Bool.false_eq_true, if_false, Res.ok_bind, v_modP (j := 100) (by decide), v_modP (j := 94) (by decide), v_fdivP (j := 94) (by decide) (by decide), ek, ez, v_ap1, v_str1i (i := (k : Int)) (by omega) (by omega), Int.toNat_natCast, v_mulR (j := 48271) (by decide), v_modP (j := 2147483647) (by decide), v_lenS (sl (Nat.le_trans lk (by decide))), v_addI, v_modP hp, v_asI]
          generalize n * 48271 % 2147483647 % (((nl k).length : Int) + 1) = a at a1 a2
          obtain ⟨a, rfl⟩ := Int.eq_ofNat_of_zero_le a1
          have hz : z < g.length := by omega
          have ei : D.ix (.str (mkS g)) (.int (z : Int)) = .ok (.str (mkS [g[z]])) := by
            rw [v_ixS (sl (by omega)), atI_nat, List.getElem?_eq_getElem hz]; rfl
          refine ⟨(nl k).take a ++ [g[z]] ++ (nl k).drop a, ?_, ?_, ?_⟩
          · simp only [List.length_append, List.length_take, List.length_drop, List.length_cons, List.length_nil]; omega
          · simp only [List.mem_append, List.mem_singleton]
            rintro ((h | h) | h)
            · exact ten k (List.mem_of_mem_take h)
            · exact t0 (h ▸ List.getElem_mem hz)
            · exact ten k (List.mem_of_mem_drop h)
          · simp only [v_sliceS (sl (Nat.le_trans lk (by decide))), cut_to, cut_from, ei, Res.ok_bind]
            rw [v_addS (by rw [List.length_take]; simp; omega), Res.ok_bind, v_addS (by rw [List.length_append, List.length_take, List.length_drop]; simp; omega)]
            simp only [Res.ok_bind, v_told_rt]
theorem v_findF {c : Nat} (h : isF c = true) : D.find1 (.str "0123456789") (.str (mkS [c])) = .ok (.int ((c - 48 : Nat) : Int)) := by
  have key : ∀ d < 10, Txt.find "0123456789" (mkS [48 + d]) = ((d : Nat) : Int) := by decide +kernel
  have hc := isF_iff.mp h
  have e := key (c - 48) (by omega)
  rw [show 48 + (c - 48) = c by omega] at e
  show Res.ok (D.int (Txt.find _ _)) = _
  rw [e]
theorem t_lawnum (w : List Nat) (hl : w.length ≤ sizeLine) : told (m_law_number (.str (mkS w))) = .ok (.int (match numV w with | some n => (n : Int) | none => -1)) := by
  unfold m_law_number
  simp only [Res.ok_bind, v_ap1, v_lenS hl, v_lt, v_gt, v_asB, v_asS, v_neg]
  cases w with
  | nil => rfl
  | cons c r =>
    have y1 : ¬ (((c :: r).length : Nat) : Int) < 1 := by rw [List.length_cons]; omega
    have e2 : atI (c :: r) (0 : Int) = some c := atI_nat (i := 0)
    have e3 : ("0" : Str) = mkS [48] := by decide +kernel
    by_cases h9 : 9 < (c :: r).length
    · have y2 : (9 : Int) < (((c :: r).length : Nat) : Int) := by omega
      simp only [y1, y2, decide_true, decide_false, Bool.false_eq_true, if_false, if_true, Res.ok_bind, v_told_rt]
      unfold numV
      rw [if_neg (by rw [Bool.and_eq_true, decide_eq_true_eq, decide_eq_true_eq]; rintro ⟨_, z⟩; omega)]
    · have y2 : ¬ (9 : Int) < (((c :: r).length : Nat) : Int) := by rw [List.length_cons] at h9 ⊢; omega
      simp only [y1, y2, decide_false, Bool.false_eq_true, if_false, Res.ok_bind, v_ixS hl, e2, Option.map_some, v_ofOpt_some, e3, v_eqS, v_neS, v_asB, mkS_eq]
      have e1 : ∀ (l : List Nat) (a : Nat), (told (andThen (loop (l.map fun c => D.str (mkS [c])) (D.int (a : Int)) fun d t2 => Res.bind (one d) fun xs => un1 (fun i4 => (Res.bind (Res.bind (D.nin i4 (.str "0123456789")) asB) fun k => if k = true then (Res.ok (Fl.rt (D.int (-1)) ())) else (Res.bind (Res.bind (D.mul (.int 10) t2) fun x => Res.bind (D.find1 (.str "0123456789") i4) fun y => D.add x y) fun d5 => (Res.ok (Fl.nx d5) : Res (Fl D D Unit))))) xs) fun t6 => (Res.ok (Fl.rt t6 ()) : Me))) = if l.all isF = true then .ok (.int ((l.foldl (fun acc c => acc * 10 + (c - 48)) a : Nat) : Int)) else .ok (.int (-1)) := by
        intro l
        induction l with
        | nil => intro a; rfl
        | cons c l ih =>
          intro a
          rw [List.map_cons, List.all_cons]
          unfold loop
          simp only [v_one, Res.ok_bind, v_un1, v_ninF, v_asB]
          cases hc : isF c with
          | true =>
            simp only [Bool.not_true, Bool.false_eq_true, if_false, v_mulL (i := 10) (by decide), Res.ok_bind, v_findF hc, v_addI, Bool.true_and, List.foldl_cons]
            have e : (10 : Int) * (a : Int) + ((c - 48 : Nat) : Int) = ((a * 10 + (c - 48) : Nat) : Int) := by
              rw [Int.natCast_add, Int.natCast_mul]; omega
            rw [e]
            exact ih (a * 10 + (c - 48))
          | false => rfl
      have nv : numV (c :: r) = if (c :: r).all isF = true then (if (decide ((c :: r).head? = some 48) && !decide (c :: r = [48])) = true then none else some (NumText.digitsVal (c :: r))) else none := by
        unfold numV
        rw [if_pos (show (decide (1 ≤ (c :: r).length) && decide ((c :: r).length ≤ 9)) = true by
          rw [Bool.and_eq_true, decide_eq_true_eq, decide_eq_true_eq]
          exact ⟨by rw [List.length_cons]; omega, by omega⟩)]
      by_cases hz : c = 48 ∧ r ≠ []
      · obtain ⟨rfl, hz⟩ := hz
        have y3 : ¬ (48 :: r = [48]) := by simp [hz]
        have nv2 : numV (48 :: r) = none := by
          rw [nv]
          have y4 : (decide ((48 :: r).head? = some 48) && !decide (48 :: r = [48])) = true := by simp [hz]
          rw [if_pos y4]
          split <;> rfl
        rw [nv2]
        simp only [decide_true, if_true, y3, decide_false, Bool.not_false, Res.ok_bind, v_told_rt]
      · have y4 : (decide ((c :: r).head? = some 48) && !decide (c :: r = [48])) = false := by
          by_cases q : c = 48
          · have : r = [] := Decidable.byContradiction fun z => hz ⟨q, z⟩
            subst q; subst this; rfl
          · simp [q]
        rw [y4] at nv
        rw [nv]
        have y5 : (if decide ([c] = [48]) = true then Res.ok (!decide (c :: r = [48])) else Res.ok false : Res Bool) = .ok false := by
          by_cases q : c = 48
          · have : r = [] := Decidable.byContradiction fun z => hz ⟨q, z⟩
            subst q; subst this; rfl
          · have : ¬ [c] = [48] := by simp [q]
            simp only [this, decide_false, Bool.false_eq_true, if_false]
        rw [y5]
        simp only [Res.ok_bind, Bool.false_eq_true, if_false, v_itemsS]
        have := e1 (c :: r) 0
        refine Eq.trans this ?_
        split <;> rfl
theorem readR1 {w row : List Nat} (h : 10 ∉ w) (hr : 10 ∉ row) : readR (sp 10 (wd "bars 10\n" ++ row)) = ((swR 10 (sp 32 row)).bind fun d => .ok (.tup [.int 10, .lst [d]])) := by
  have e : wd "bars 10\n" = wd "bars 10" ++ [10] := by decide +kernel
  rw [e, List.append_assoc, List.singleton_append, sp_word (by decide +kernel), sp_free hr]
  show (cntR (sp 32 (wd "bars 10"))).bind (fun n => (rowsR n [] [row]).bind fun l => Res.ok (D.tup [D.int (n : Int), D.lst l])) = _
  rw [cntR_10]
  show (((swR 10 (sp 32 row)).bind fun d => Res.ok ([] ++ [d])).bind fun acc' => Res.ok acc').bind (fun l => Res.ok (D.tup [D.int 10, D.lst l])) = _
  cases swR 10 (sp 32 row) with
  | ok d => rfl
  | exc k => rfl
  | stuck => rfl
theorem t_class0 {x : Str} (h : told (m_read (.str x)) = .exc "NoRow") : told (m_law_class (.str x)) = .ok (.int 0) := by
  unfold m_law_class
  simp only [Res.ok_bind, v_a1, h, Res.exc_bind]
  rfl
theorem t_class1 {x : Str} (h : told (m_read (.str x)) = .exc "NoMeasure") : told (m_law_class (.str x)) = .ok (.int 1) := by
  unfold m_law_class
  simp only [Res.ok_bind, v_a1, h, Res.exc_bind]
  rfl
theorem t_class2 {x : Str} (h : told (m_read (.str x)) = .exc "NoBar") : told (m_law_class (.str x)) = .ok (.int 2) := by
  unfold m_law_class
  simp only [Res.ok_bind, v_a1, h, Res.exc_bind]
  rfl
theorem t_class3 {x : Str} (h : told (m_read (.str x)) = .exc "Same") : told (m_law_class (.str x)) = .ok (.int 3) := by
  unfold m_law_class
  simp only [Res.ok_bind, v_a1, h, Res.exc_bind]
  rfl
theorem t_toldY (n : Int) (sws : List D) (hs : ∀ d ∈ sws, okE 2 d = true) (hi : ∀ d ∈ sws, ∃ l : List Int, D.sliceI d (some 1) none = .ok (.tup (l.map D.int))) : told (m_law_told (.tup [.int n, .lst sws]) (.tup [.int n, .lst sws])) = .ok (.bl true) := by
  have ok : okE 4 (.tup [.int n, .lst sws]) = true := by
    show ([D.int n, D.lst sws]).all (okE 3) = true
    have : sws.all (okE 2) = true := List.all_eq_true.mpr hs
    show (okE 3 (.int n) && (okE 3 (.lst sws) && true)) = true
    rw [show okE 3 (.lst sws) = sws.all (okE 2) from rfl, this]; rfl
  unfold m_law_told
  simp only [Res.ok_bind, v_isT_tt, v_ne_self ok (by decide), v_ixT, v_atI0, v_atI1, v_ofOpt_some, v_isT_ib, v_asB, Bool.not_true, Bool.false_eq_true, if_false, v_items_lst]
  refine told_loop (fun _ _ => True) trivial ?_ ?_
  · intro i hj x _
    refine ⟨(), .inl ?_, trivial⟩
    obtain ⟨l, el⟩ := hi _ (List.getElem_mem hj)
    simp only [v_one, Res.ok_bind, v_un1, v_asI, el, v_items_tup]
    have e := loop_pass (β := Unit) (κ := Unit) (f := fun d (t4 : Unit) => Res.bind (one d) fun xs => un1 (fun i6 => ((D.isT "bool" i6).bind asB).bind fun k => if k = true then Res.ok (Fl.rt (D.bl false) ()) else Res.ok (Fl.nx ())) xs) (l.map D.int) fun d hd => by
      obtain ⟨i, _, rfl⟩ := List.mem_map.mp hd
      exact .inl rfl
    simp only [v_one, Res.ok_bind, v_un1] at e
    rw [e]; rfl
  · intro t _
    simp only [Res.ok_bind, v_told_rt]
theorem t_rowA (k : Str) (w : List Nat) (N : Int) (h : w.length ≤ 20) : told (m_law_row (.str k) (.int 0) (.str (mkS w)) (.int N)) = .ok (.lst [.str (mkS (wd "feed" ++ 32 :: w)), .tup [.str "feed", .int N]]) := by
  unfold m_law_row
  have e1 : D.ix (.lst [.str "feed", .str "earth"]) (.int 0) = .ok (.str "feed") := rfl
  have e2 : D.add (.str "feed") (.str " ") = .ok (.str (mkS (wd "feed" ++ [32]))) := by
    rw [str_mk "feed", str_mk " ", v_addS (by decide)]; rfl
  simp only [Res.ok_bind, v_lt, show decide ((0 : Int) < 2) = true from rfl, v_asB, if_true, v_mkLst2, e1, e2, v_mkTup2]
  rw [v_addS (by rw [List.length_append, show (wd "feed").length = 4 by decide]; simp; omega)]
  simp only [Res.ok_bind, v_mkLst2, v_told_rt, List.append_assoc, List.singleton_append]
theorem t_rowB (k : Str) (w : List Nat) (N : Int) (h : w.length ≤ 20) : told (m_law_row (.str k) (.int 1) (.str (mkS w)) (.int N)) = .ok (.lst [.str (mkS (wd "earth" ++ 32 :: w)), .tup [.str "earth", .int N]]) := by
  unfold m_law_row
  have e1 : D.ix (.lst [.str "feed", .str "earth"]) (.int 1) = .ok (.str "earth") := rfl
  have e2 : D.add (.str "earth") (.str " ") = .ok (.str (mkS (wd "earth" ++ [32]))) := by
    rw [str_mk "earth", str_mk " ", v_addS (by decide)]; rfl
  simp only [Res.ok_bind, v_lt, show decide ((1 : Int) < 2) = true from rfl, v_asB, if_true, v_mkLst2, e1, e2, v_mkTup2]
  rw [v_addS (by rw [List.length_append, show (wd "earth").length = 5 by decide]; simp; omega)]
  simp only [Res.ok_bind, v_mkLst2, v_told_rt, List.append_assoc, List.singleton_append]
theorem t_rowC (k : List Nat) (a : Int) (ha : 2 ≤ a) (h2 : a % 2 = 0) (hk : k.length ≤ 10) (w : List Nat) (N : Int) (h : w.length ≤ 20) : told (m_law_row (.str (mkS k)) (.int a) (.str (mkS w)) (.int N)) = .ok (.lst [.str (mkS (k ++ 32 :: (w ++ [32, 55]))), .tup [.str (mkS k), .int N, .int 7]]) := by
  unfold m_law_row
  have y1 : decide (a < 2) = false := by simp; omega
  simp only [Res.ok_bind, v_lt, y1, v_asB, Bool.false_eq_true, if_false, v_modP (j := 2) (by decide), h2, v_eqI, decide_true, if_true, v_mkTup3]
  rw [str_mk " ", v_addS (by rw [show (wd " ").length = 1 by decide]; omega), Res.ok_bind, v_addS (by rw [List.length_append, show (wd " ").length = 1 by decide]; omega), Res.ok_bind, str_mk " 7", v_addS (by rw [List.length_append, List.length_append, show (wd " ").length = 1 by decide, show (wd " 7").length = 2 by decide]; omega)]
  simp only [Res.ok_bind, v_mkLst2, v_told_rt]
  rw [show wd " " = [32] by decide +kernel, show wd " 7" = [32, 55] by decide +kernel]
  simp only [List.append_assoc, List.singleton_append, List.cons_append, List.nil_append]
theorem t_rowD (k : List Nat) (a : Int) (ha : 2 ≤ a) (h2 : a % 2 = 1) (hk : k.length ≤ 10) (w : List Nat) (N : Int) (h : w.length ≤ 20) : told (m_law_row (.str (mkS k)) (.int a) (.str (mkS w)) (.int N)) = .ok (.lst [.str (mkS (k ++ 32 :: 52 :: 32 :: w)), .tup [.str (mkS k), .int 4, .int N]]) := by
  unfold m_law_row
  have y1 : decide (a < 2) = false := by simp; omega
  simp only [Res.ok_bind, v_lt, y1, v_asB, Bool.false_eq_true, if_false, v_modP (j := 2) (by decide), h2, v_eqI, show decide ((1 : Int) = 0) = false from rfl, v_mkTup3]
  rw [str_mk " 4 ", v_addS (by rw [show (wd " 4 ").length = 3 by decide]; omega), Res.ok_bind, v_addS (by rw [List.length_append, show (wd " 4 ").length = 3 by decide]; omega)]
  simp only [Res.ok_bind, v_mkLst2, v_told_rt]
  rw [show wd " 4 " = [32, 52, 32] by decide +kernel]
  simp only [List.append_assoc, List.cons_append, List.nil_append]

def same3 (sw : D) (b : Bool) : Prop := (((D.len sw).bind fun x => D.eq x (.int 3)).bind asB).bind (fun c => if c = true then ((D.ix sw (.int 1)).bind fun x => (D.ix sw (.int 2)).bind fun y => D.eq x y).bind asB else .ok false) = .ok b
def rowOk (w : List Nat) (N : Int) (K : Str) (a : Int) : Prop := ∃ (R : List Nat) (sw : D), told (m_law_row (.str K) (.int (if a > 0 then a else 0)) (.str (mkS w)) (.int N)) = .ok (.lst [.str (mkS R), sw]) ∧ 10 ∉ R ∧ R.length ≤ 60 ∧
  ((N < 0 ∧ swR 10 (sp 32 R) = .exc "NoRow" ∧ ∃ b, same3 sw b) ∨ (10 ≤ N ∧ swR 10 (sp 32 R) = .exc "NoBar" ∧ same3 sw false) ∨ (0 ≤ N ∧ N < 10 ∧ swR 10 (sp 32 R) = .exc "Same" ∧ same3 sw true) ∨
   (0 ≤ N ∧ N < 10 ∧ swR 10 (sp 32 R) = .ok sw ∧ same3 sw false ∧ okE 2 sw = true ∧ ∃ l : List Int, D.sliceI sw (some 1) none = .ok (.tup (l.map D.int))))
theorem w_len2 (k : List Nat) (i : Int) : same3 (.tup [.str (mkS k), .int i]) false := rfl
theorem w_len3 (k : List Nat) (i j : Int) : same3 (.tup [.str (mkS k), .int i, .int j]) (decide (i = j)) := by
  show (((D.eq (.int i) (.int j)).bind asB : Res Bool)) = _
  rfl
theorem w_ok (k : List Nat) (l : List Int) (hk : PyData.strOk (mkS k) = true) : okE 2 (.tup (.str (mkS k) :: l.map D.int)) = true := by
  show ((D.str (mkS k)) :: l.map D.int).all (okE 1) = true
  rw [List.all_cons]
  have : (l.map D.int).all (okE 1) = true := by
    rw [List.all_eq_true]
    intro d hd
    obtain ⟨i, _, rfl⟩ := List.mem_map.mp hd
    rfl
  rw [this, show okE 1 (.str (mkS k)) = PyData.strOk (mkS k) from rfl, hk]; rfl
theorem t_rows (w : List Nat) (hl : w.length ≤ 20) (ht : 10 ∉ w) (a : Int) (h0 : -1 ≤ a) (h5 : a ≤ 5) : rowOk w (match numV w with | some n => (n : Int) | none => -1) (if a > 3 then "splitter" else "breaker") a := by
  have f32 : 32 ∉ wd "feed" := by decide +kernel
  have e32 : 32 ∉ wd "earth" := by decide +kernel
  have b32 : 32 ∉ wd "breaker" := by decide +kernel
  have s32 : 32 ∉ wd "splitter" := by decide +kernel
  have one : ∀ k : Str, endsV (wd k) = 1 → 32 ∉ wd k → 10 ∉ wd k → (wd k).length ≤ 10 → PyData.strOk (mkS (wd k)) = true → ∀ N : Int, N = (match numV w with | some n => (n : Int) | none => -1) →
      told (m_law_row (.str (if a > 3 then "splitter" else "breaker")) (.int (if a > 0 then a else 0)) (.str (mkS w)) (.int N)) = .ok (.lst [.str (mkS (wd k ++ 32 :: w)), .tup [.str (mkS (wd k)), .int N]]) → rowOk w N (if a > 3 then "splitter" else "breaker") a := by
    intro k k1 k2 k3 k4 k5 N hN e
    refine ⟨_, _, e, ?_, ?_, ?_⟩
    · rw [List.mem_append, List.mem_cons]
      rintro (z | z | z)
      · exact k3 z
      · cases z
      · exact ht z
    · rw [List.length_append, List.length_cons]; omega
    · rw [sp_word k2, swR_one k1]
      subst hN
      cases q : numV w with
      | none => exact .inl ⟨by decide, rfl, _, w_len2 _ _⟩
      | some x =>
        by_cases hx : 10 ≤ x
        · refine .inr (.inl ⟨by show (10 : Int) ≤ (x : Int); omega, by simp only [hx, if_true], w_len2 _ _⟩)
        · refine .inr (.inr (.inr ⟨by show (0 : Int) ≤ (x : Int); omega, by show (x : Int) < 10; omega, by simp only [hx, if_false], w_len2 _ _, w_ok _ [(x : Int)] k5, [(x : Int)], rfl⟩))
  have two : ∀ k : Str, endsV (wd k) = 2 → 32 ∉ wd k → 10 ∉ wd k → (wd k).length ≤ 10 → PyData.strOk (mkS (wd k)) = true → ∀ N : Int, N = (match numV w with | some n => (n : Int) | none => -1) → 2 ≤ a → (if a > 3 then "splitter" else "breaker" : Str) = mkS (wd k) → rowOk w N (if a > 3 then "splitter" else "breaker") a := by
    intro k k1 k2 k3 k4 k5 N hN ha ek
    have em : (if a > 0 then a else 0) = a := if_pos (by omega)
    rcases (show a % 2 = 0 ∨ a % 2 = 1 by omega) with h2 | h2
    · refine ⟨_, _, by rw [ek, em]; exact t_rowC (wd k) a ha h2 k4 w N hl, ?_, ?_, ?_⟩
      · simp only [List.mem_append, List.mem_cons, List.not_mem_nil, or_false]
        rintro (z | z | z | z | z)
        · exact k3 z
        · cases z
        · exact ht z
        · cases z
        · cases z
      · simp only [List.length_append, List.length_cons, List.length_nil]; omega
      · rw [sp_word k2, swR_two k1 (by decide) (show numV [55] = some 7 by decide +kernel) (by decide)]
        subst hN
        cases q : numV w with
        | none => exact .inl ⟨by decide, rfl, _, w_len3 _ _ _⟩
        | some x =>
          by_cases hx : 10 ≤ x
          · have hy : decide ((x : Int) = 7) = false := by simp; omega
            exact .inr (.inl ⟨by show (10 : Int) ≤ (x : Int); omega, by simp only [hx, if_true], hy ▸ w_len3 _ _ _⟩)
          · by_cases h7 : x = 7
            · have hy : decide ((x : Int) = 7) = true := by simp; omega
              exact .inr (.inr (.inl ⟨by show (0 : Int) ≤ (x : Int); omega, by show (x : Int) < 10; omega, by simp only [hx, if_false]; rw [if_pos h7], hy ▸ w_len3 _ _ _⟩))
            · have hy : decide ((x : Int) = 7) = false := by simp; omega
              exact .inr (.inr (.inr ⟨by show (0 : Int) ≤ (x : Int); omega, by show (x : Int) < 10; omega, by simp only [hx, if_false, h7]; rfl, hy ▸ w_len3 _ _ _, w_ok _ [(x : Int), 7] k5, [(x : Int), 7], rfl⟩))
    · refine ⟨_, _, by rw [ek, em]; exact t_rowD (wd k) a ha h2 k4 w N hl, ?_, ?_, ?_⟩
      · simp only [List.mem_append, List.mem_cons]
        rintro (z | z | z | z | z)
        · exact k3 z
        · cases z
        · cases z
        · cases z
        · exact ht z
      · simp only [List.length_append, List.length_cons]; omega
      · rw [sp_word k2, show (52 :: 32 :: w : List Nat) = [52] ++ 32 :: w from rfl, swR_two' k1 (by decide) (show numV [52] = some 4 by decide +kernel) (by decide)]
        subst hN
        cases q : numV w with
        | none => exact .inl ⟨by decide, rfl, _, w_len3 _ _ _⟩
        | some x =>
          by_cases hx : 10 ≤ x
          · have hy : decide ((4 : Int) = (x : Int)) = false := by simp; omega
            exact .inr (.inl ⟨by show (10 : Int) ≤ (x : Int); omega, by simp only [hx, if_true], hy ▸ w_len3 _ _ _⟩)
          · by_cases h7 : 4 = x
            · have hy : decide ((4 : Int) = (x : Int)) = true := by simp; omega
              exact .inr (.inr (.inl ⟨by show (0 : Int) ≤ (x : Int); omega, by show (x : Int) < 10; omega, by simp only [hx, if_false, h7, if_true], hy ▸ w_len3 _ _ _⟩))
            · have hy : decide ((4 : Int) = (x : Int)) = false := by simp; omega
              exact .inr (.inr (.inr ⟨by show (0 : Int) ≤ (x : Int); omega, by show (x : Int) < 10; omega, by simp only [hx, if_false, h7]; rfl, hy ▸ w_len3 _ _ _, w_ok _ [4, (x : Int)] k5, [4, (x : Int)], rfl⟩))
  by_cases ha : a ≤ 0
  · have em : (if a > 0 then a else 0) = 0 := if_neg (by omega)
    refine one "feed" (by decide +kernel) f32 (by decide +kernel) (by decide) (by decide +kernel) _ rfl ?_
    rw [em, mkS_tl]
    exact t_rowA _ w _ hl
  · by_cases h1 : a = 1
    · subst h1
      refine one "earth" (by decide +kernel) e32 (by decide +kernel) (by decide) (by decide +kernel) _ rfl ?_
      rw [mkS_tl]
      exact t_rowB _ w _ hl
    · by_cases h3 : a > 3
      · exact two "splitter" (by decide +kernel) s32 (by decide +kernel) (by decide) (by decide +kernel) _ rfl (by omega) (by rw [if_pos h3, mkS_tl])
      · exact two "breaker" (by decide +kernel) b32 (by decide +kernel) (by decide) (by decide +kernel) _ rfl (by omega) (by rw [if_neg h3, mkS_tl])

theorem t_barrow (w : List Nat) (hl : w.length ≤ 5000) (ht : 10 ∉ w) : readR (sp 10 (wd "bars " ++ w)) = match numV w with
    | none => .exc "NoRow"
    | some n => if n < 1 ∨ 10 < n then .exc "NoMeasure" else .ok (.tup [.int (n : Int), .lst []]) := by
  have e : wd "bars " = wd "bars" ++ [32] := by decide +kernel
  have hn : 10 ∉ wd "bars " ++ w := by
    rw [List.mem_append]
    rintro (z | z)
    · exact absurd z (by decide +kernel)
    · exact ht z
  rw [sp_free hn]
  show (cntR (sp 32 (wd "bars " ++ w))).bind (fun n => (rowsR n [] []).bind fun l => Res.ok (D.tup [D.int (n : Int), D.lst l])) = _
  rw [e, List.append_assoc, List.singleton_append, sp_word (by decide +kernel), cntR_one]
  cases numV w with
  | none => rfl
  | some n =>
    by_cases h : n < 1 ∨ 10 < n
    · simp only [h, if_true]; rfl
    · simp only [h, if_false]; rfl
theorem t_end06 {T : Str} {Y : D} {q : Int} (h : (q = 0 ∧ told (m_read (.str T)) = .exc "NoRow") ∨ (q = 1 ∧ told (m_read (.str T)) = .exc "NoMeasure") ∨ (q = 2 ∧ told (m_read (.str T)) = .exc "NoBar") ∨ (q = 3 ∧ told (m_read (.str T)) = .exc "Same") ∨ (q = 4 ∧ told (m_read (.str T)) = .ok Y ∧ told (m_law_told Y Y) = .ok (.bl true))) :
    ((((D.int q).lt (D.int 4)).bind asB).bind fun c => if c = true then ((told (m_law_class (.str T))).bind fun x => x.ne (D.int q)).bind asB else Res.ok false).bind (fun k => if k = true then (Res.ok (Fl.rt (D.bl false) ()) : Res (Fl Unit Unit Unit)) else
      ((((D.int q).eq (D.int 4)).bind asB).bind fun c => if c = true then ((((told (m_read (.str T))).bind fun x => Res.ok [x, Y]).bind fun ds => told (a2 m_law_told ds)).bind asB).bind fun c => Res.ok !c else Res.ok false).bind fun k => if k = true then Res.ok (Fl.rt (D.bl false) ()) else Res.ok (Fl.nx ())) = .ok (.nx ()) := by
  rcases h with ⟨rfl, h⟩ | ⟨rfl, h⟩ | ⟨rfl, h⟩ | ⟨rfl, h⟩ | ⟨rfl, h, h2⟩
  · rw [t_class0 h]; rfl
  · rw [t_class1 h]; rfl
  · rw [t_class2 h]; rfl
  · rw [t_class3 h]; rfl
  · rw [h]
    simp only [Res.ok_bind, v_a2, h2]
    rfl
theorem v_int1b (c : Bool) : D.int1 (.bl c) = .ok (.int (if c then 1 else 0)) := id rfl
theorem law_true (ns : List Int) (h : ns.length ≤ 63) : told (a1 m_law [.scr ns]) = .ok (.bl true) := by
  rw [v_a1]
  unfold m_law
  simp only [Res.ok_bind, v_asI, v_sliceSc, v_items_lst]
  refine told_loopN (fun _ _ => True) trivial ?_ ?_
  · intro i hi x _
    rw [List.getElem_map]
    generalize (D.cut ns none (some 63))[i]'(by simpa using hi) = c
    obtain ⟨w, hw, ht, ew⟩ := t_writing c
    have hws : w.length ≤ sizeLine := Nat.le_trans hw (by decide)
    simp only [v_one, Res.ok_bind, v_un1, v_a1, ew, t_lawnum w hws, v_mulR (j := 39373) (by decide), v_modP (j := 2147483629) (by decide), v_modP (j := 7) (by decide), v_sub, v_mkLst2, v_gt]
    obtain ⟨a, ea, h0, h5⟩ : ∃ a : Int, c * 39373 % 2147483629 % 7 - 1 = a ∧ -1 ≤ a ∧ a ≤ 5 := ⟨_, rfl, by omega, by omega⟩
    rw [ea]
    obtain ⟨R, sw, er, hR, lR, hc⟩ := t_rows w hw ht a h0 h5
    have e1 : (D.int1 (.bl (decide (3 < a)))).bind (fun y => D.ix (.lst [.str "breaker", .str "splitter"]) y) = .ok (.str (if a > 3 then "splitter" else "breaker")) := by
      by_cases q : 3 < a
      · have q' : a > 3 := q
        rw [decide_eq_true q, if_pos q']; rfl
      · have q' : ¬ a > 3 := q
        rw [decide_eq_false q, if_neg q']; rfl
    have e2 : D.max2 (.int a) (.int 0) = .ok (.int (if 0 > a then 0 else a)) := rfl
    have e3 : (if 0 > a then 0 else a) = if a > 0 then a else 0 := by split <;> split <;> omega
    generalize hN : (match numV w with | some n => (n : Int) | none => -1 : Int) = N at er hc
    simp only [v_ap1, e1, v_ap2, e2, e3, Res.ok_bind, v_a4, er, v_untupL2, v_un2]
    have hT : told (m_read (.str (mkS (wd "bars 10\n" ++ R)))) = (swR 10 (sp 32 R)).bind fun d => .ok (.tup [.int 10, .lst [d]]) := by
      rw [t_readR _ (by rw [List.length_append, show (wd "bars 10\n").length = 8 by decide]; exact Nat.le_trans (show 8 + R.length + 2 ≤ 70 by omega) (by decide)), readR1 ht hR]
    have ea : D.add (.str "bars 10\n") (.str (mkS R)) = .ok (.str (mkS (wd "bars 10\n" ++ R))) := by
      rw [str_mk "bars 10\n", v_addS (by rw [show (wd "bars 10\n").length = 8 by decide]; omega)]
    have eb : D.add (.str "bars ") (.str (mkS w)) = .ok (.str (mkS (wd "bars " ++ w))) := by
      rw [str_mk "bars ", v_addS (by rw [show (wd "bars ").length = 5 by decide]; omega)]
    have hB := (t_readR (wd "bars " ++ w) (by rw [List.length_append, show (wd "bars ").length = 5 by decide]; exact Nat.le_trans (show 5 + w.length + 2 ≤ 70 by omega) (by decide))).trans (t_barrow w (by omega) ht)
    simp only [ea, eb, Res.ok_bind, v_mkLst1, v_mkTup2, v_lt, v_le]
    have hb : ∃ b, same3 sw b := by
      rcases hc with ⟨_, _, b, hb⟩ | ⟨_, _, hb⟩ | ⟨_, _, _, hb⟩ | ⟨_, _, _, hb, _⟩
      · exact ⟨_, hb⟩
      · exact ⟨_, hb⟩
      · exact ⟨_, hb⟩
      · exact ⟨_, hb⟩
    obtain ⟨b, hb⟩ := hb
    have hb2 := hb
    unfold same3 at hb2
    have e4 : (ap1 D.int1 [D.bl (decide (N < 10))]).bind (fun y => (D.lst [D.int 2, D.int 4]).ix y) = .ok (.int (if N < 10 then 4 else 2)) := by
      by_cases q : N < 10
      · simp only [q, decide_true, if_true]; rfl
      · simp only [q, decide_false, if_false]; rfl
    have e5 : (if b = true then (Res.ok (Fl.nx (D.int 3)) : Res (Fl D Unit Unit)) else Res.ok (Fl.nx (D.int (if N < 10 then 4 else 2)))) = .ok (.nx (.int (if b = true then 3 else if N < 10 then 4 else 2))) := by cases b <;> rfl
    by_cases hneg : a < 0
    · simp only [hneg, decide_true, if_true, Res.ok_bind, v_asB, v_mkLst0, e4, hb2, e5, v_at_nx, v_mkTup2]
      have e6 : (((if decide (1 ≤ N) = true then Res.ok (D.bl (decide (N ≤ 10))) else Res.ok (D.bl false)).bind fun x => Res.ok [x]).bind (ap1 D.int1)).bind (fun y => (D.lst [D.int 1, D.int 4]).ix y) = .ok (.int (if 1 ≤ N ∧ N ≤ 10 then 4 else 1)) := by
        by_cases q : 1 ≤ N
        · by_cases q2 : N ≤ 10
          · simp only [q, q2, decide_true, if_true, and_self]; rfl
          · simp only [q, q2, decide_true, decide_false, if_true, and_false, if_false]; rfl
        · simp only [q, decide_false, Bool.false_eq_true, if_false, false_and]; rfl
      simp only [e6, Res.ok_bind, v_at_nx]
      have e7 : (if decide (N < 0) = true then (Res.ok (Fl.nx (D.int 0)) : Res (Fl D Unit Unit)) else Res.ok (Fl.nx (D.int (if 1 ≤ N ∧ N ≤ 10 then 4 else 1)))) = .ok (.nx (.int (if N < 0 then 0 else if 1 ≤ N ∧ N ≤ 10 then 4 else 1))) := by
        by_cases q : N < 0
        · simp only [q, decide_true, if_true]
        · simp only [q, decide_false, Bool.false_eq_true, if_false]
      simp only [e7, v_at_nx]
      rw [t_end06 (Y := .tup [.int N, .lst []])]
      · exact .nx trivial
      · cases q : numV w with
        | none =>
          rw [q] at hB hN
          have : N < 0 := by rw [← hN]; decide
          exact .inl ⟨if_pos this, hB⟩
        | some n =>
          rw [q] at hB hN
          have hN : (n : Int) = N := hN
          have n0 : ¬ N < 0 := by omega
          rw [if_neg n0]
          by_cases hn : n < 1 ∨ 10 < n
          · refine .inr (.inl ⟨if_neg (by omega), ?_⟩)
            rw [hB]
            exact if_pos hn
          · refine .inr (.inr (.inr (.inr ⟨if_pos (by omega), ?_, t_toldY N [] (fun _ z => nomatch z) (fun _ z => nomatch z)⟩)))
            rw [hB, ← hN]
            exact if_neg hn
    · simp only [hneg, decide_false, Bool.false_eq_true, if_false, Res.ok_bind, v_asB, e4, hb2, e5, v_at_nx]
      have e7 : (if decide (N < 0) = true then (Res.ok (Fl.nx (D.int 0)) : Res (Fl D Unit Unit)) else Res.ok (Fl.nx (D.int (if b = true then 3 else if N < 10 then 4 else 2)))) = .ok (.nx (.int (if N < 0 then 0 else if b = true then 3 else if N < 10 then 4 else 2))) := by
        by_cases q : N < 0
        · simp only [q, decide_true, if_true]
        · simp only [q, decide_false, Bool.false_eq_true, if_false]
      simp only [e7, v_at_nx]
      have uniq : ∀ b', same3 sw b' → b = b' := fun b' hb' => by
        unfold same3 at hb'
        rw [hb2] at hb'
        cases hb'; rfl
      rw [t_end06 (Y := .tup [.int 10, .lst [sw]])]
      · exact .nx trivial
      · rcases hc with ⟨h1, h2, _⟩ | ⟨h1, h2, h3⟩ | ⟨h1, h1', h2, h3⟩ | ⟨h1, h1', h2, h3, h4, h6⟩
        · rw [h2] at hT
          exact .inl ⟨if_pos h1, hT⟩
        · rw [h2] at hT
          have := uniq _ h3
          subst this
          refine .inr (.inr (.inl ⟨?_, hT⟩))
          rw [if_neg (by omega), if_neg (by decide), if_neg (by omega)]
        · rw [h2] at hT
          have := uniq _ h3
          subst this
          refine .inr (.inr (.inr (.inl ⟨?_, hT⟩)))
          rw [if_neg (by omega), if_pos rfl]
        · rw [h2] at hT
          have := uniq _ h3
          subst this
          refine .inr (.inr (.inr (.inr ⟨?_, hT, t_toldY 10 [sw] (fun d hd => ?_) fun d hd => ?_⟩)))
          · rw [if_neg (by omega), if_neg (by decide), if_pos h1']
          · rw [List.mem_singleton.mp hd]; exact h4
          · rw [List.mem_singleton.mp hd]; exact h6
  · intro _ _
    have c1 : told (m_law_class (.str (mkS (wd "bars " ++ List.replicate 5000 55)))) = .ok (.int 0) := by
      generalize hm : 5000 = m
      refine t_class0 ?_
      have ht : 10 ∉ List.replicate m 55 := fun z => by
        have := List.eq_of_mem_replicate z
        omega
      have hnv : numV (List.replicate m 55) = none := by
        unfold numV
        rw [if_neg]
        rw [Bool.and_eq_true, decide_eq_true_eq, decide_eq_true_eq, List.length_replicate]
        omega
      have := (t_readR (wd "bars " ++ List.replicate m 55) (by rw [List.length_append, show (wd "bars ").length = 5 by decide, List.length_replicate]; exact Nat.le_trans (show 5 + m + 2 ≤ 6000 by omega) (by decide))).trans (t_barrow (List.replicate m 55) (by rw [List.length_replicate]; omega) ht)
      rw [hnv] at this
      exact this
    have c2 : told (m_law_class (.str (mkS (wd "bars 10\nfeed " ++ List.replicate 5000 48)))) = .ok (.int 0) := by
      generalize hm : 5000 = m
      refine t_class0 ?_
      have ht : 10 ∉ List.replicate m 48 := fun z => by
        have := List.eq_of_mem_replicate z
        omega
      have hnv : numV (List.replicate m 48) = none := by
        unfold numV
        rw [if_neg]
        rw [Bool.and_eq_true, decide_eq_true_eq, decide_eq_true_eq, List.length_replicate]
        omega
      have e : wd "bars 10\nfeed " = wd "bars 10\n" ++ (wd "feed" ++ [32]) := by decide +kernel
      have hR : 10 ∉ wd "feed" ++ 32 :: List.replicate m 48 := by
        rw [List.mem_append, List.mem_cons]
        rintro (z | z | z)
        · exact absurd z (by decide +kernel)
        · cases z
        · exact ht z
      rw [e, List.append_assoc, List.append_assoc, List.singleton_append]
      rw [t_readR _ (by rw [List.length_append, List.length_append, List.length_cons, show (wd "bars 10\n").length = 8 by decide, show (wd "feed").length = 4 by decide, List.length_replicate]; exact Nat.le_trans (show 8 + (4 + (m + 1)) + 2 ≤ 6000 by omega) (by decide)), readR1 ht hR, sp_word (by decide +kernel), swR_one (by decide +kernel), hnv]
      rfl
    have m1 : D.mul (.str "7") (.int 5000) = .ok (.str (mkS (List.replicate 5000 55))) := by
      rw [str_mk "7"]; exact v_mulS 55 (n := 5000) (by decide)
    have m2 : D.mul (.str "0") (.int 5000) = .ok (.str (mkS (List.replicate 5000 48))) := by
      rw [str_mk "0"]; exact v_mulS 48 (n := 5000) (by decide)
    have a1 : D.add (.str "bars ") (.str (mkS (List.replicate 5000 55))) = .ok (.str (mkS (wd "bars " ++ List.replicate 5000 55))) := by
      rw [str_mk "bars ", v_addS (by rw [show (wd "bars ").length = 5 by decide, List.length_replicate]; decide)]
    have a2 : D.add (.str "bars 10\nfeed ") (.str (mkS (List.replicate 5000 48))) = .ok (.str (mkS (wd "bars 10\nfeed " ++ List.replicate 5000 48))) := by
      rw [str_mk "bars 10\nfeed ", v_addS (by rw [show (wd "bars 10\nfeed ").length = 13 by decide, List.length_replicate]; decide)]
    simp only [m1, m2, a1, a2, Res.ok_bind, v_a1, c1, c2, v_eqI, decide_true, v_asB, if_true, v_told_rt]

end G
end RL

namespace RL
namespace G
open PySem PySem.Spec PyProof.Rows L2
abbrev R : PySem.W.OpenRow := PySem.W.OpenLaw.row PySem.Challenge.rw_earthward_k06_numbers_written
abbrev hk : PySem.W.Hook := hookX 5 fa fn fx
def ob (s : PySem.W.SharedT) : AlX := obsX 5 fa fn fx (HandSHeadRun.getT s)
theorem ob_eq (s : PySem.W.SharedT) : ob s = hk.obs s.abs := obsX_eq (HandSHeadRun.getT_eq s)
def loose : List PySem.Str := ((["WardError", "NoRow", "NoMeasure", "NoBar", "Same", "FIGURES", "LONGEST", "MOST_BARS", "MOST_SWITCHES", "number_of"] : List PySem.Str) ++ (["count_told", "ends_of", "switch_told", "with_switch", "read", "_law_writing", "_law_number", "_law_class", "_law_told", "_law_row"] : List PySem.Str))
theorem run (w : World) : HandSHeadRun.RunEq R (PySem.W.view R.prog [23]) hk ob 30000 loose w := by
  intro os
  kernel_rfl
theorem bnd_law {K : PySem.W.Frag} {f : Addr} {fd : FuncData} (Fd : FunD K "law" "law" (defArgs s_law) (defBody s_law) (defScope s_law) [] [] f fd) : ∀ (s : Shared) (v : Value), BindsTo s fd ⟨[v], []⟩ [("script", v)] := by
  have b := FunD.bindsA (ps := ["script"]) Fd fun _ _ _ _ _ _ us hl => match us, hl with | [_], _ => rfl
  exact fun s v => b s [v] rfl
end G
end RL
open PySem PySem.W PySem.Calls PyProof.Rows
theorem PySem.Challenge.cw_earthward_k06_numbers_written_holds : PySem.Challenge.rw_earthward_k06_numbers_written.Holds := by
  w_on; o_law
  refine HandSHeadRun.head_any (r := OpenLaw.row PySem.Challenge.rw_earthward_k06_numbers_written) (q := view (OpenLaw.row PySem.Challenge.rw_earthward_k06_numbers_written).prog [23]) (H := RL.G.hk) (ob := RL.G.ob) (M := 30000) (loose := RL.G.loose) (d := HandSHeadRun.topDef (OpenLaw.row PySem.Challenge.rw_earthward_k06_numbers_written).prog 23) (kwd := []) RL.G.ob_eq
    (by kernel_rfl) (fun s => by kernel_rfl) RL.G.run (by kernel_rfl) (by kernel_rfl) (by kernel_rfl) (by rfl) (by first | assumption | decide +kernel) (by decide +kernel) ⟨rfl, rfl, rfl, rfl, rfl, by decide +kernel⟩ ?hw ?hc
  case hw => w_witness2
  case hc =>
    refine L2.walk_ofE (l := PySem.Challenge.rw_earthward_k06_numbers_written) (n := 63) (k := 6) (x := "script") (CX := L2.CX0) rfl (by decide) (by kernel_rfl) ⟨rfl, by decide, by decide⟩ ?F (fun _ _ _ _ z => z)
    intro w mg fa h Y G hmg0
    obtain ⟨K, KX, c, cx⟩ := Y
    have hmg : mg ("law" : PySem.Str) = some (.ref fa) := by
      have e : (HandSHeadRun.topDef (OpenLaw.row PySem.Challenge.rw_earthward_k06_numbers_written).prog 23).name = ("law" : PySem.Str) := by kernel_rfl
      rw [← e]
      exact hmg0
    have C : RL.G.Tx K mg := ⟨h, KX, G, c, cx⟩
    obtain ⟨fd, Fd⟩ := RL.G.fd_law C
    have e := hmg.symm.trans (RL.G.g_law C)
    cases e
    exact ⟨K, fd, (RL.spL K fun ds => RL.told (RL.a1 RL.G.m_law ds)), KX, RL.G.bnd_law Fd, fun H a ns hl _ hS => RL.spD_law RL.G.law_true H a ns hl hS, fun base _ _ => RL.FnOk.law (RL.G.fn_law C Fd)⟩
