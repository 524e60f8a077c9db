import PyProof.Rows.All
import Wide.All
import OpenK.AllK
import Wide.FinOn
import HandS.ForMost
import HandS.ForExc
import HandS.WrittenGet
import KE.KDictList
import KE.KDictSum
import HandS.TupAny
import HandS.Style
import HandS.IsInst
import HandS.TupMul
import KE.KEqDict
import PyProof.NeKinds
import PyProof.DictCopy
import PyProof.StrOps2
import HandS.SetFor
import HandS.StrMore
import HandS.WordsExc
import HandS.ExcOwn
import KE.KExcIs
import HandS.ExcField
import HandS.RaiseMore
import PyProof.ExcBaseAll.ValueError
import PySem.Challenge.RW_undohouse_k40_whole_trees
set_option Elab.async false
set_option linter.all false
set_option maxRecDepth 100000
set_option maxHeartbeats 4000000
/-! Dee: values as data. A def's body is read as a plain function over data (D), local slots (Dn) and a store of the objects that change (Store). -/
namespace Dee
open PySem L2

inductive D where
  | non | bl (b : Bool) | int (i : Int) | str (s : Str)
  | tup (ds : List D) | lst (ds : List D) | rol (ds : List D) | dct (kvs : List (Key × D))
  | loc (n : Nat) | exc (c : Str) (fs : List (Str × D)) | kod (kvs : List (Str × D)) | keys (d : D)
instance : Inhabited D := ⟨.non⟩

inductive Cell where
  | lst (ds : List D) | dct (kvs : List (Key × D)) | ins (c : Str) (fs : List (Str × D)) | dead
instance : Inhabited Cell := ⟨.dead⟩
abbrev Store := List Cell
abbrev Dn := List (Option D)

inductive Out (α : Type) where
  | ok (a : α) (S : Store) | exn (c : Str) (fs : List (Str × D)) (S : Store) | bad
inductive SOut where
  | nx (δ : Dn) (S : Store) | rt (d : D) (S : Store) | bk (δ : Dn) (S : Store) | ct (δ : Dn) (S : Store) | exn (c : Str) (fs : List (Str × D)) (δ : Dn) (S : Store) | bad

/-- what the text's written part tells: addresses of its classes -/
structure Tab0 where
  K : PySem.W.Frag
  w : World
  A : Str → Addr
/-- and what stands aside: things that none of the data shows -/
structure Tab extends Tab0 where
  P : Hp
instance : Coe Tab Tab0 := ⟨Tab.toTab0⟩
/-- addresses of the classes, and what stands aside -/
structure AP where
  a : Str → Addr
  P : Hp

/-- an exception's object, held -/
def ExH (cls : Value) (d : Option Addr) (a : Addr) : HO := .ext fun h => ∃ (oe : Obj) (vs : Array Value), h.get? a = some oe ∧ Zc cls d oe ∧ oe.data = .fields vs

/-- a view of a dict's keys -/
def VwH (p a : Addr) : HO := .ext fun h => PySem.W.KdlKeysView h p a
/-- a flat datum -/
def flD : D → Option V
  | .non => some .non | .bl b => some (.bl b) | .int i => some (.int i) | .str s => some (.str s) | _ => none
/-- a dict of the written part, by its items -/
def KodOk (T : Tab0) (a : Addr) (kvs : List (Str × D)) : Prop :=
  ∃ es n, T.K.lookup a = some ⟨.type "dict", none, .dict es n, #[]⟩ ∧ PySem.W.KeysLit T.w.params es.toList ∧ (a == sysModules) = false ∧ ∀ k : Str, match kvs.lookup k with
    | some d => ∃ u v, findBy Value.isStrOf es k = some u ∧ flD d = some v ∧ RelV v u
    | none => findBy Value.isStrOf es k = none

/-- all that is there stays there; but a dict may be locked -/
def Le (F H : Hp) : Prop := ∀ p u, F p = some u → H p = some u ∨ ∃ o kv, u = .dK kv ∧ H p = some (.frz o (.dK kv))
theorem Le.refl (F : Hp) : Le F F := fun _ _ h => .inl h
theorem Le.trans {F G H : Hp} (a : Le F G) (b : Le G H) : Le F H := fun p u h => by
  rcases a p u h with h | ⟨o, kv, e, h⟩
  · exact b p u h
  · rcases b p _ h with h | ⟨o', kv', e', h⟩
    · exact .inr ⟨o, kv, e, h⟩
    · cases e'
theorem Le.free {F H : Hp} (e : Le F H) {p : Addr} (h : H p = none) : F p = none := by
  cases q : F p with
  | none => rfl
  | some u =>
    rcases e p u q with k | ⟨_, _, _, k⟩
    · rw [h] at k; cases k
    · rw [h] at k; cases k
theorem Le.ex {F H : Hp} (e : Le F H) {p : Addr} {u : HO} (h : F p = some u) (n : ∀ kv, u ≠ .dK kv) : H p = some u := by
  rcases e p u h with k | ⟨_, kv, k, _⟩
  · exact k
  · exact absurd k (n kv)
theorem Le.of {F H : Hp} (e : Same F H) : Le F H := fun p u h => .inl (e p u h)
theorem Le.rdT {F H : Hp} (e : Le F H) {a : Addr} {xs : List V} (h : Rd F a (.tup xs)) : Rd H a (.tup xs) := by
  rcases h with h | ⟨o, h⟩
  · exact .inl (e.ex h (fun _ z => by cases z))
  · exact .inr ⟨o, e.ex h (fun _ z => by cases z)⟩
theorem Le.rdL {F H : Hp} (e : Le F H) {a : Addr} {xs : List V} (h : Rd F a (.lst xs)) : Rd H a (.lst xs) := by
  rcases h with h | ⟨o, h⟩
  · exact .inl (e.ex h (fun _ z => by cases z))
  · exact .inr ⟨o, e.ex h (fun _ z => by cases z)⟩
theorem Le.rdK {F H : Hp} (e : Le F H) {a : Addr} {xs : List (Key × V)} (h : Rd F a (.dK xs)) : Rd H a (.dK xs) := by
  rcases h with h | ⟨o, h⟩
  · rcases e a _ h with k | ⟨o, kv, k, q⟩
    · exact .inl k
    · cases k; exact .inr ⟨o, q⟩
  · exact .inr ⟨o, e.ex h (fun _ z => by cases z)⟩
theorem Le.seq {K : PySem.W.Frag} {F H : Hp} (e : Le F H) {a : Addr} {xs : List V} (h : SqL K F a xs) : SqL K H a xs := h.imp e.rdL id
theorem Le.tup {K : PySem.W.Frag} {F H : Hp} (e : Le F H) {a : Addr} {xs : List V} (h : SqT K F a xs) : SqT K H a xs := h.imp e.rdT id
theorem ExH.nd {cls : Value} {d : Option Addr} {a : Addr} (kv : List (Key × V)) : ExH cls d a ≠ .dK kv := fun z => by unfold ExH at z; cases z
theorem VwH.nd {p a : Addr} (kv : List (Key × V)) : VwH p a ≠ .dK kv := fun z => by unfold VwH at z; cases z

section
variable (T : Tab0) (F : Hp) (ρ : List Addr)
mutual
inductive Rep : D → V → Prop where
  | non : Rep .non .non
  | bl (b : Bool) : Rep (.bl b) (.bl b)
  | int (i : Int) : Rep (.int i) (.int i)
  | str (s : Str) : Rep (.str s) (.str s)
  | tup {p : Addr} {vs : List V} {ds : List D} (h : SqT T.K F p vs) (r : Reps ds vs) : Rep (.tup ds) (.ref p)
  | lst {p : Addr} {vs : List V} {ds : List D} (h : F p = some (.lst vs)) (r : Reps ds vs) : Rep (.lst ds) (.ref p)
  | rol {p : Addr} {vs : List V} {ds : List D} (h : SqL T.K F p vs) (r : Reps ds vs) : Rep (.rol ds) (.ref p)
  | dct {p : Addr} {kv : List (Key × V)} {kd : List (Key × D)} (h : Rd F p (.dK kv)) (r : RepK kd kv) : Rep (.dct kd) (.ref p)
  | loc {n : Nat} {p : Addr} (h : ρ[n]? = some p) : Rep (.loc n) (.ref p)
  | exc {c : Str} {p : Addr} (h : F p = some (ExH (.ref (T.A c)) none p)) : Rep (.exc c []) (.ref p)
  | keys {p a : Addr} {d : D} (h : F p = some (VwH p a)) (r : Rep d (.ref a)) : Rep (.keys d) (.ref p)
  | kod {a : Addr} {kvs : List (Str × D)} (h : KodOk T a kvs) : Rep (.kod kvs) (.ref a)
  | excd {c : Str} {p dd : Addr} {fs : List (Str × D)} {fv : List (Str × V)} (h : F p = some (ExH (.ref (T.A c)) (some dd) p)) (hd : F dd = some (.xd fv)) (r : RepF fs fv) : Rep (.exc c fs) (.ref p)
inductive Reps : List D → List V → Prop where
  | nil : Reps [] []
  | cons {d : D} {v : V} {ds : List D} {vs : List V} (h : Rep d v) (t : Reps ds vs) : Reps (d :: ds) (v :: vs)
inductive RepK : List (Key × D) → List (Key × V) → Prop where
  | nil : RepK [] []
  | cons {k : Key} {d : D} {v : V} {ds : List (Key × D)} {vs : List (Key × V)} (h : Rep d v) (t : RepK ds vs) : RepK ((k, d) :: ds) ((k, v) :: vs)
inductive RepF : List (Str × D) → List (Str × V) → Prop where
  | nil : RepF [] []
  | cons {k : Str} {d : D} {v : V} {ds : List (Str × D)} {vs : List (Str × V)} (h : Rep d v) (t : RepF ds vs) : RepF ((k, d) :: ds) ((k, v) :: vs)
end

/-- what stands at a cell's address -/
def CellOk (H : Hp) (p : Addr) : Cell → Prop
  | .lst ds => F p = none ∧ ∃ vs, H p = some (.lst vs) ∧ Reps T F ρ ds vs
  | .dct kd => F p = none ∧ ∃ kv, H p = some (.dK kv) ∧ RepK T F ρ kd kv
  | .ins c fs => F p = none ∧ ∃ dx fv, H p = some (.ins (T.A c) dx fv) ∧ RepF T F ρ fs fv
  | .dead => True
end
def live (S : Store) (n : Nat) : Prop := ∃ c, S[n]? = some c ∧ c ≠ .dead
structure Rel (T : Tab) (F : Hp) (ρ : List Addr) (S : Store) (H : Hp) : Prop where
  sub : Le F H
  len : ρ.length = S.length
  cell : ∀ (n : Nat) (c : Cell) (p : Addr), S[n]? = some c → ρ[n]? = some p → CellOk T F ρ H p c
  dis : ∀ (n m : Nat) (p : Addr), live S n → live S m → ρ[n]? = some p → ρ[m]? = some p → n = m
  prv : ∀ (p : Addr) (o : HO), T.P p = some o → H p = some o ∧ F p = none ∧ ∀ n, live S n → ρ[n]? ≠ some p
/-- later: more is laid down -/
structure Ext (F : Hp) (ρ : List Addr) (F' : Hp) (ρ' : List Addr) : Prop where
  same : Le F F'
  pre : ρ <+: ρ'
theorem Ext.refl (F : Hp) (ρ : List Addr) : Ext F ρ F ρ := ⟨Le.refl F, List.prefix_refl ρ⟩
theorem Ext.trans {F F' F'' : Hp} {ρ ρ' ρ'' : List Addr} (a : Ext F ρ F' ρ') (b : Ext F' ρ' F'' ρ'') : Ext F ρ F'' ρ'' := ⟨a.same.trans b.same, a.pre.trans b.pre⟩
theorem pre_get {ρ ρ' : List Addr} (h : ρ <+: ρ') {n : Nat} {p : Addr} (e : ρ[n]? = some p) : ρ'[n]? = some p := by
  obtain ⟨t, rfl⟩ := h
  obtain ⟨hl, _⟩ := List.getElem?_eq_some_iff.mp e
  rw [List.getElem?_append_left hl]; exact e
section
variable {T : Tab0} {F F' : Hp} {ρ ρ' : List Addr}
mutual
theorem Rep.mono (x : Ext F ρ F' ρ') {d : D} {v : V} : Rep T F ρ d v → Rep T F' ρ' d v
  | .non => .non
  | .bl b => .bl b
  | .int i => .int i
  | .str s => .str s
  | .tup h r => .tup (x.same.tup h) (Reps.mono x r)
  | .lst h r => .lst (x.same.ex h (fun _ z => by cases z)) (Reps.mono x r)
  | .rol h r => .rol (x.same.seq h) (Reps.mono x r)
  | .dct h r => .dct (x.same.rdK h) (RepK.mono x r)
  | .loc h => .loc (pre_get x.pre h)
  | .exc h => .exc (x.same.ex h ExH.nd)
  | .keys h r => .keys (x.same.ex h VwH.nd) (Rep.mono x r)
  | .kod h => .kod h
  | .excd h hd r => .excd (x.same.ex h ExH.nd) (x.same.ex hd (fun _ z => by cases z)) (RepF.mono x r)
theorem Reps.mono (x : Ext F ρ F' ρ') {ds : List D} {vs : List V} : Reps T F ρ ds vs → Reps T F' ρ' ds vs
  | .nil => .nil
  | .cons h t => .cons (Rep.mono x h) (Reps.mono x t)
theorem RepK.mono (x : Ext F ρ F' ρ') {ds : List (Key × D)} {vs : List (Key × V)} : RepK T F ρ ds vs → RepK T F' ρ' ds vs
  | .nil => .nil
  | .cons h t => .cons (Rep.mono x h) (RepK.mono x t)
theorem RepF.mono (x : Ext F ρ F' ρ') {ds : List (Str × D)} {vs : List (Str × V)} : RepF T F ρ ds vs → RepF T F' ρ' ds vs
  | .nil => .nil
  | .cons h t => .cons (Rep.mono x h) (RepF.mono x t)
end
theorem Reps.len : ∀ {ds : List D} {vs : List V}, Reps T F ρ ds vs → ds.length = vs.length
  | _, _, .nil => rfl
  | _, _, .cons _ t => by simp [Reps.len t]
theorem Reps.get : ∀ {ds : List D} {vs : List V} {i : Nat} {d : D}, Reps T F ρ ds vs → ds[i]? = some d → ∃ v, vs[i]? = some v ∧ Rep T F ρ d v
  | _, _, _, _, .nil, e => by simp at e
  | _, _, 0, _, .cons r _, e => by simp at e; subst e; exact ⟨_, rfl, r⟩
  | _, _, i + 1, d, .cons _ t, e => by
    obtain ⟨v, h1, h2⟩ := Reps.get (i := i) (d := d) t (by simpa using e)
    exact ⟨v, by simpa using h1, h2⟩
theorem Reps.getV : ∀ {ds : List D} {vs : List V} {i : Nat} {v : V}, Reps T F ρ ds vs → vs[i]? = some v → ∃ d, ds[i]? = some d ∧ Rep T F ρ d v
  | _, _, _, _, .nil, e => by simp at e
  | _, _, 0, _, .cons r _, e => by simp at e; subst e; exact ⟨_, rfl, r⟩
  | _, _, i + 1, d, .cons _ t, e => by
    obtain ⟨v, h1, h2⟩ := Reps.getV (i := i) (v := d) t (by simpa using e)
    exact ⟨v, by simpa using h1, h2⟩
theorem Reps.append : ∀ {ds es : List D} {vs ws : List V}, Reps T F ρ ds vs → Reps T F ρ es ws → Reps T F ρ (ds ++ es) (vs ++ ws)
  | _, _, _, _, .nil, s => s
  | _, _, _, _, .cons r t, s => .cons r (Reps.append t s)
theorem Reps.take : ∀ {ds : List D} {vs : List V} (n : Nat), Reps T F ρ ds vs → Reps T F ρ (ds.take n) (vs.take n)
  | _, _, 0, _ => .nil
  | _, _, _ + 1, .nil => .nil
  | _, _, n + 1, .cons r t => .cons r (Reps.take n t)
theorem Reps.drop : ∀ {ds : List D} {vs : List V} (n : Nat), Reps T F ρ ds vs → Reps T F ρ (ds.drop n) (vs.drop n)
  | _, _, 0, r => r
  | _, _, _ + 1, .nil => .nil
  | _, _, n + 1, .cons _ t => Reps.drop n t
theorem Reps.reverse {ds : List D} {vs : List V} (h : Reps T F ρ ds vs) : Reps T F ρ ds.reverse vs.reverse := by
  induction ds generalizing vs with
  | nil => cases h; exact .nil
  | cons d ds ih =>
    cases h with
    | cons r t =>
      rw [List.reverse_cons, List.reverse_cons]
      exact (ih t).append (.cons r .nil)
theorem Reps.dropLast {ds : List D} {vs : List V} (h : Reps T F ρ ds vs) : Reps T F ρ ds.dropLast vs.dropLast := by
  rw [List.dropLast_eq_take, List.dropLast_eq_take, h.len]; exact h.take _
theorem Reps.set {d : D} {v : V} (r : Rep T F ρ d v) : ∀ {ds : List D} {vs : List V} (i : Nat), Reps T F ρ ds vs → Reps T F ρ (ds.set i d) (vs.set i v)
  | _, _, _, .nil => .nil
  | _, _, 0, .cons _ t => .cons r t
  | _, _, i + 1, .cons q t => .cons q (Reps.set r i t)
theorem Reps.one {d : D} {v : V} (r : Rep T F ρ d v) : Reps T F ρ [d] [v] := .cons r .nil
theorem RepF.look : ∀ {fs : List (Str × D)} {fv : List (Str × V)} (f : Str), RepF T F ρ fs fv → (fs.lookup f = none ∧ fv.lookup f = none) ∨ ∃ d v, fs.lookup f = some d ∧ fv.lookup f = some v ∧ Rep T F ρ d v
  | _, _, _, .nil => .inl ⟨rfl, rfl⟩
  | (k, d) :: _, (_, v) :: _, f, .cons h t => by
    rw [List.lookup_cons, List.lookup_cons]
    cases hb : f == k with
    | true => exact .inr ⟨d, v, rfl, rfl, h⟩
    | false => exact RepF.look f t
theorem RepF.len : ∀ {fs : List (Str × D)} {fv : List (Str × V)}, RepF T F ρ fs fv → fs.length = fv.length
  | _, _, .nil => rfl
  | _, _, .cons _ t => by simp [RepF.len t]
/-- a field stored -/
def putD (f : Str) (d : D) : List (Str × D) → List (Str × D)
  | [] => [(f, d)]
  | (g, x) :: r => if g = f then (g, d) :: r else (g, x) :: putD f d r
end
end Dee

set_option maxRecDepth 100000
set_option maxHeartbeats 4000000
namespace Dee
open PySem L2
/-! ### heaps and stores -/
section
variable {T : Tab} {F F' H H' : Hp} {ρ ρ' : List Addr} {S S' : Store} {p : Addr} {o : HO}
theorem CellOk.mono {c : Cell} (x : Ext F ρ F' ρ') (hf : c ≠ .dead → F p = none → F' p = none) (hh : ∀ o, H p = some o → H' p = some o) (h : CellOk T F ρ H p c) : CellOk T F' ρ' H' p c := by
  cases c with
  | lst ds => obtain ⟨h0, vs, h1, h2⟩ := h; exact ⟨hf (by simp) h0, vs, hh _ h1, h2.mono x⟩
  | dct ds => obtain ⟨h0, vs, h1, h2⟩ := h; exact ⟨hf (by simp) h0, vs, hh _ h1, h2.mono x⟩
  | ins c fs => obtain ⟨h0, dx, fv, h1, h2⟩ := h; exact ⟨hf (by simp) h0, dx, fv, hh _ h1, h2.mono x⟩
  | dead => trivial
theorem CellOk.there {c : Cell} (h : CellOk T F ρ H p c) (l : c ≠ .dead) : ∃ o, H p = some o ∧ F p = none ∧ Mut (some o) ∧ ∀ xs, o ≠ .tup xs := by
  cases c with
  | lst ds => obtain ⟨h0, vs, h1, h2⟩ := h; exact ⟨_, h1, h0, True.intro, fun _ => by simp⟩
  | dct ds => obtain ⟨h0, vs, h1, h2⟩ := h; exact ⟨_, h1, h0, True.intro, fun _ => by simp⟩
  | ins c fs => obtain ⟨h0, dx, fv, h1, h2⟩ := h; exact ⟨_, h1, h0, True.intro, fun _ => by simp⟩
  | dead => exact absurd rfl l
theorem Rel.same (r : Rel T F ρ S H) (k : Same H H') : Rel T F ρ S H' where
  sub := r.sub.trans (.of k)
  len := r.len
  cell := fun n c p e1 e2 => (r.cell n c p e1 e2).mono (Ext.refl F ρ) (fun _ q => q) fun o q => k _ _ q
  dis := r.dis
  prv := fun p o e => let ⟨a, b⟩ := r.prv p o e; ⟨k _ _ a, b⟩
theorem same_new (hp : H p = none) : Same H (upd H p o) := fun b u e => by
  rw [upd_ne (ne_of_none e hp)]; exact e
theorem Rel.freeF (r : Rel T F ρ S H) (hp : H p = none) : F p = none := r.sub.free hp
/-- a new object that stays as it is -/
theorem Rel.new (r : Rel T F ρ S H) (hp : H p = none) : Rel T (upd F p o) ρ S (upd H p o) ∧ Ext F ρ (upd F p o) ρ := by
  have x : Ext F ρ (upd F p o) ρ := ⟨.of (same_new (r.freeF hp)), List.prefix_refl ρ⟩
  refine ⟨⟨fun b u e => ?_, r.len, fun n c q e1 e2 => ?_, r.dis, fun q u e => ?_⟩, x⟩
  · by_cases hb : b = p
    · subst hb; rw [upd_same] at e ⊢; exact .inl e
    · rw [upd_ne hb] at e ⊢; exact r.sub _ _ e
  · have k := r.cell n c q e1 e2
    by_cases hd : c = Cell.dead
    · subst hd; trivial
    · obtain ⟨u, h1, h2, _⟩ := k.there hd
      have hq : q ≠ p := ne_of_none h1 hp
      exact k.mono x (fun _ z => by rw [upd_ne hq]; exact z) fun u z => by rw [upd_ne hq]; exact z
  · obtain ⟨h1, h2, h3⟩ := r.prv q u e
    have hq : q ≠ p := ne_of_none h1 hp
    rw [upd_ne hq, upd_ne hq]
    exact ⟨h1, h2, h3⟩
/-- a new cell -/
theorem Rel.cellNew {c : Cell} (r : Rel T F ρ S H) (hp : H p = none) (hc : CellOk T F (ρ ++ [p]) (upd H p o) p c) (hd : c ≠ .dead) : Rel T F (ρ ++ [p]) (S ++ [c]) (upd H p o) := by
  have x : Ext F ρ F (ρ ++ [p]) := ⟨Le.refl F, List.prefix_append ρ [p]⟩
  have old : ∀ n q, n < S.length → (ρ ++ [p])[n]? = some q → ρ[n]? = some q := fun n q hn e => by
    rw [List.getElem?_append_left (by rw [r.len]; exact hn)] at e; exact e
  have lt : ∀ (n : Nat) (c' : Cell), (S ++ [c])[n]? = some c' → n < S.length ∧ S[n]? = some c' ∨ n = S.length ∧ c' = c := fun n c' e => by
    by_cases hn : n < S.length
    · rw [List.getElem?_append_left hn] at e; exact .inl ⟨hn, e⟩
    · have hl := (List.getElem?_eq_some_iff.mp e).1
      rw [List.length_append, List.length_singleton] at hl
      have en : n = S.length := by omega
      subst en
      rw [List.getElem?_concat_length] at e
      exact .inr ⟨rfl, (Option.some.inj e).symm⟩
  have lastp : ∀ q, (ρ ++ [p])[S.length]? = some q → q = p := fun q e => by
    rw [← r.len, List.getElem?_concat_length] at e; exact (Option.some.inj e).symm
  have ne : ∀ (n : Nat) (q : Addr) (c' : Cell), S[n]? = some c' → c' ≠ .dead → ρ[n]? = some q → q ≠ p := fun n q c' e h e2 z => by
    obtain ⟨u, h1, _⟩ := (r.cell n c' q e e2).there h
    rw [z, hp] at h1; cases h1
  refine ⟨r.sub.trans (.of (same_new hp)), by rw [List.length_append, List.length_append, r.len, List.length_singleton, List.length_singleton], fun n c' q e1 e2 => ?_, fun n m q l1 l2 e1 e2 => ?_, fun q u e => ?_⟩
  · rcases lt n c' e1 with ⟨hn, e⟩ | ⟨rfl, rfl⟩
    · by_cases hdd : c' = Cell.dead
      · subst hdd; trivial
      · have k := r.cell n c' q e (old n q hn e2)
        have hq := ne n q c' e hdd (old n q hn e2)
        exact k.mono x (fun _ z => z) fun u z => by rw [upd_ne hq]; exact z
    · rw [lastp q e2]; exact hc
  · obtain ⟨c1, a1, b1⟩ := l1
    obtain ⟨c2, a2, b2⟩ := l2
    rcases lt n c1 a1 with ⟨hn, f1⟩ | ⟨rfl, rfl⟩
    · rcases lt m c2 a2 with ⟨hm, f2⟩ | ⟨rfl, rfl⟩
      · exact r.dis n m q ⟨c1, f1, b1⟩ ⟨c2, f2, b2⟩ (old n q hn e1) (old m q hm e2)
      · exact absurd (lastp q e2) (ne n q c1 f1 b1 (old n q hn e1))
    · rcases lt m c2 a2 with ⟨hm, f2⟩ | ⟨rfl, rfl⟩
      · exact absurd (lastp q e1) (ne m q c2 f2 b2 (old m q hm e2))
      · rfl
  · obtain ⟨h1, h2, h3⟩ := r.prv q u e
    have hq : q ≠ p := ne_of_none h1 hp
    rw [upd_ne hq]
    refine ⟨h1, h2, fun n l z => ?_⟩
    obtain ⟨c1, a1, b1⟩ := l
    rcases lt n c1 a1 with ⟨hn, f1⟩ | ⟨rfl, rfl⟩
    · exact h3 n ⟨c1, f1, b1⟩ (old n q hn z)
    · exact hq (lastp q z)
/-- a cell is written -/
theorem Rel.cellSet {n : Nat} {c₀ c : Cell} (r : Rel T F ρ S H) (h0 : S[n]? = some c₀) (l0 : c₀ ≠ .dead) (hp : ρ[n]? = some p) (hc : CellOk T F ρ (upd H p o) p c) : Rel T F ρ (S.set n c) (upd H p o) := by
  obtain ⟨u0, hu0, hF0, _⟩ := (r.cell n c₀ p h0 hp).there l0
  have hn : n < S.length := (List.getElem?_eq_some_iff.mp h0).1
  have liveS : ∀ m, live (S.set n c) m → live S m := fun m l => by
    obtain ⟨c', a, b⟩ := l
    by_cases hm : m = n
    · subst hm; exact ⟨c₀, h0, l0⟩
    · rw [List.getElem?_set_ne (Ne.symm hm)] at a; exact ⟨c', a, b⟩
  refine ⟨fun b u e => ?_, by rw [List.length_set]; exact r.len, fun m c' q e1 e2 => ?_, fun a b q l1 l2 e1 e2 => r.dis a b q (liveS a l1) (liveS b l2) e1 e2, fun q u e => ?_⟩
  · have hb : b ≠ p := fun z => by rw [z, hF0] at e; cases e
    rw [upd_ne hb]; exact r.sub _ _ e
  · by_cases hm : m = n
    · subst hm
      rw [List.getElem?_set_self hn] at e1
      have ec : c = c' := Option.some.inj e1
      rw [hp] at e2
      have ep : p = q := Option.some.inj e2
      subst ec ep
      exact hc
    · rw [List.getElem?_set_ne (Ne.symm hm)] at e1
      by_cases hd : c' = .dead
      · subst hd; trivial
      · have hq : q ≠ p := fun z => hm (r.dis m n p ⟨c', e1, hd⟩ ⟨c₀, h0, l0⟩ (z ▸ e2) hp)
        exact (r.cell m c' q e1 e2).mono (Ext.refl F ρ) (fun _ z => z) fun u z => by rw [upd_ne hq]; exact z
  · obtain ⟨h1, h2, h3⟩ := r.prv q u e
    have hq : q ≠ p := fun z => h3 n ⟨c₀, h0, l0⟩ (by rw [z]; exact hp)
    rw [upd_ne hq]
    exact ⟨h1, h2, fun m l => h3 m (liveS m l)⟩
/-- a cell becomes data -/
theorem Rel.freeze {n : Nat} {c₀ : Cell} (r : Rel T F ρ S H) (h0 : S[n]? = some c₀) (l0 : c₀ ≠ .dead) (hp : ρ[n]? = some p) (ho : H p = some o) : Rel T (upd F p o) ρ (S.set n .dead) H ∧ Ext F ρ (upd F p o) ρ := by
  obtain ⟨u0, hu0, hF0, _⟩ := (r.cell n c₀ p h0 hp).there l0
  have hn : n < S.length := (List.getElem?_eq_some_iff.mp h0).1
  have x : Ext F ρ (upd F p o) ρ := ⟨.of (same_new hF0), List.prefix_refl ρ⟩
  have liveS : ∀ m, live (S.set n .dead) m → live S m ∧ m ≠ n := fun m l => by
    obtain ⟨c', a, b⟩ := l
    by_cases hm : m = n
    · subst hm
      rw [List.getElem?_set_self hn] at a
      exact absurd (Option.some.inj a).symm b
    · rw [List.getElem?_set_ne (Ne.symm hm)] at a; exact ⟨⟨c', a, b⟩, hm⟩
  refine ⟨⟨fun b u e => ?_, by rw [List.length_set]; exact r.len, fun m c' q e1 e2 => ?_, fun a b q l1 l2 e1 e2 => r.dis a b q (liveS a l1).1 (liveS b l2).1 e1 e2, fun q u e => ?_⟩, x⟩
  · by_cases hb : b = p
    · subst hb; rw [upd_same] at e; rw [ho]; exact .inl e
    · rw [upd_ne hb] at e; exact r.sub _ _ e
  · by_cases hd : c' = .dead
    · subst hd; trivial
    · have lm : live (S.set n .dead) m := ⟨c', e1, hd⟩
      obtain ⟨lS, hm⟩ := liveS m lm
      rw [List.getElem?_set_ne (Ne.symm hm)] at e1
      have hq : q ≠ p := fun z => hm (r.dis m n p lS ⟨c₀, h0, l0⟩ (z ▸ e2) hp)
      exact (r.cell m c' q e1 e2).mono x (fun _ z => by rw [upd_ne hq]; exact z) fun u z => z
  · obtain ⟨h1, h2, h3⟩ := r.prv q u e
    have hq : q ≠ p := fun z => h3 n ⟨c₀, h0, l0⟩ (by rw [z]; exact hp)
    rw [upd_ne hq]
    exact ⟨h1, h2, fun m l => h3 m (liveS m l).1⟩
/-- a thing is put aside -/
theorem Rel.hide (r : Rel T F ρ S H) (hp : H p = none) : Rel { T with P := upd T.P p o } F ρ S (upd H p o) where
  sub := r.sub.trans (.of (same_new hp))
  len := r.len
  cell := fun n c q e1 e2 => (r.cell n c q e1 e2).mono (Ext.refl F ρ) (fun _ z => z) fun u z => same_new hp _ _ z
  dis := r.dis
  prv := fun q u e => by
    by_cases hq : q = p
    · subst hq
      rw [upd_same]
      refine ⟨by have e0 : upd T.P q o q = some u := e; rw [upd_same] at e0; exact e0, r.freeF hp, fun n l z => ?_⟩
      obtain ⟨c, a, b⟩ := l
      obtain ⟨w, h1, _⟩ := (r.cell n c q a z).there b
      rw [hp] at h1; cases h1
    · have e' : T.P q = some u := by rw [← e]; exact (upd_ne hq).symm
      obtain ⟨h1, h2, h3⟩ := r.prv q u e'
      rw [upd_ne hq]; exact ⟨h1, h2, h3⟩
/-- it is changed there -/
theorem Rel.aside {P : Hp} {o o' : HO} (r : Rel { T with P := upd P p o } F ρ S H) : Rel { T with P := upd P p o' } F ρ S (upd H p o') := by
  obtain ⟨a0, a1, a2⟩ := r.prv p o upd_same
  refine ⟨fun b u e => ?_, r.len, fun n c q e1 e2 => ?_, r.dis, fun q u e => ?_⟩
  · have hb : b ≠ p := fun z => by rw [z, a1] at e; cases e
    rw [upd_ne hb]; exact r.sub _ _ e
  · by_cases hd : c = .dead
    · subst hd; trivial
    · have hq : q ≠ p := fun z => a2 n ⟨c, e1, hd⟩ (z ▸ e2)
      exact (r.cell n c q e1 e2).mono (Ext.refl F ρ) (fun _ z => z) fun u z => by rw [upd_ne hq]; exact z
  · by_cases hq : q = p
    · subst hq
      rw [upd_same]
      exact ⟨by rw [← e]; exact upd_same.symm, a1, a2⟩
    · have e' : (upd P p o) q = some u := by rw [← e]; exact (upd_ne hq).trans (upd_ne hq).symm
      obtain ⟨h1, h2, h3⟩ := r.prv q u e'
      rw [upd_ne hq]; exact ⟨h1, h2, h3⟩
/-- it is shown: as data, or in a cell of its own -/
theorem Rel.shown {P : Hp} {o : HO} (hP : P p = none) (r : Rel { T with P := upd P p o } F ρ S H) : Rel { T with P := P } (upd F p o) ρ S H ∧ Ext F ρ (upd F p o) ρ := by
  obtain ⟨a0, a1, a2⟩ := r.prv p o upd_same
  have x : Ext F ρ (upd F p o) ρ := ⟨.of (same_new a1), List.prefix_refl ρ⟩
  refine ⟨⟨fun b u e => ?_, r.len, fun n c q e1 e2 => ?_, r.dis, fun q u e => ?_⟩, x⟩
  · by_cases hb : b = p
    · subst hb; rw [upd_same] at e; rw [a0]; exact .inl e
    · rw [upd_ne hb] at e; exact r.sub _ _ e
  · by_cases hd : c = .dead
    · subst hd; trivial
    · have hq : q ≠ p := fun z => a2 n ⟨c, e1, hd⟩ (z ▸ e2)
      exact (r.cell n c q e1 e2).mono x (fun _ z => by rw [upd_ne hq]; exact z) fun u z => z
  · have hq : q ≠ p := fun z => by
      have e0 : P q = some u := e
      rw [z, hP] at e0; cases e0
    have e' : (upd P p o) q = some u := by rw [← e]; exact upd_ne hq
    obtain ⟨h1, h2, h3⟩ := r.prv q u e'
    rw [upd_ne hq]; exact ⟨h1, h2, h3⟩
theorem Rel.shownC {P : Hp} {o : HO} {c : Cell} (hP : P p = none) (r : Rel { T with P := upd P p o } F ρ S H) (hc : CellOk T F (ρ ++ [p]) H p c) (hd : c ≠ .dead) : Rel { T with P := P } F (ρ ++ [p]) (S ++ [c]) H := by
  obtain ⟨a0, a1, a2⟩ := r.prv p o upd_same
  have x : Ext F ρ F (ρ ++ [p]) := ⟨Le.refl F, List.prefix_append ρ [p]⟩
  have old : ∀ n q, n < S.length → (ρ ++ [p])[n]? = some q → ρ[n]? = some q := fun n q hn e => by
    rw [List.getElem?_append_left (by rw [r.len]; exact hn)] at e; exact e
  have lt : ∀ (n : Nat) (c' : Cell), (S ++ [c])[n]? = some c' → n < S.length ∧ S[n]? = some c' ∨ n = S.length ∧ c' = c := fun n c' e => by
    by_cases hn : n < S.length
    · rw [List.getElem?_append_left hn] at e; exact .inl ⟨hn, e⟩
    · have hl := (List.getElem?_eq_some_iff.mp e).1
      rw [List.length_append, List.length_singleton] at hl
      have en : n = S.length := by omega
      subst en
      rw [List.getElem?_concat_length] at e
      exact .inr ⟨rfl, (Option.some.inj e).symm⟩
  have lastp : ∀ q, (ρ ++ [p])[S.length]? = some q → q = p := fun q e => by
    rw [← r.len, List.getElem?_concat_length] at e; exact (Option.some.inj e).symm
  refine ⟨r.sub, by rw [List.length_append, List.length_append, r.len, List.length_singleton, List.length_singleton], fun n c' q e1 e2 => ?_, fun n m q l1 l2 e1 e2 => ?_, fun q u e => ?_⟩
  · rcases lt n c' e1 with ⟨hn, e⟩ | ⟨rfl, rfl⟩
    · by_cases hdd : c' = Cell.dead
      · subst hdd; trivial
      · exact (r.cell n c' q e (old n q hn e2)).mono x (fun _ z => z) fun u z => z
    · rw [lastp q e2]; exact hc
  · obtain ⟨c1, f1, b1⟩ := l1
    obtain ⟨c2, f2, b2⟩ := l2
    rcases lt n c1 f1 with ⟨hn, g1⟩ | ⟨rfl, rfl⟩
    · rcases lt m c2 f2 with ⟨hm, g2⟩ | ⟨rfl, rfl⟩
      · exact r.dis n m q ⟨c1, g1, b1⟩ ⟨c2, g2, b2⟩ (old n q hn e1) (old m q hm e2)
      · exact absurd (by rw [← lastp q e2]; exact old n q hn e1) (a2 n ⟨c1, g1, b1⟩)
    · rcases lt m c2 f2 with ⟨hm, g2⟩ | ⟨rfl, rfl⟩
      · exact absurd (by rw [← lastp q e1]; exact old m q hm e2) (a2 m ⟨c2, g2, b2⟩)
      · rfl
  · have hq : q ≠ p := fun z => by
      have e0 : P q = some u := e
      rw [z, hP] at e0; cases e0
    have e' : (upd P p o) q = some u := by rw [← e]; exact upd_ne hq
    obtain ⟨h1, h2, h3⟩ := r.prv q u e'
    refine ⟨h1, h2, fun n l z => ?_⟩
    obtain ⟨c1, f1, b1⟩ := l
    rcases lt n c1 f1 with ⟨hn, g1⟩ | ⟨rfl, rfl⟩
    · exact h3 n ⟨c1, g1, b1⟩ (old n q hn z)
    · exact hq (lastp q z)
end

/-! ### slots, exceptions, wishes -/
def EnvR (T : Tab0) (F : Hp) (ρ : List Addr) (δ : Dn) (σ : St) : Prop := δ.length = σ.length ∧ ∀ (i : Nat) (d : D), δ[i]? = some (some d) → ∃ v, σ[i]? = some (some v) ∧ Rep T F ρ d v
def ExcR (T : Tab0) (F : Hp) (ρ : List Addr) (c : Str) (fs : List (Str × D)) (cl : Value) (dd : Option Addr) : Prop :=
  cl = .ref (T.A c) ∧ ((fs = [] ∧ dd = none) ∨ ∃ d fv, dd = some d ∧ F d = some (.xd fv) ∧ RepF T F ρ fs fv)
theorem EnvR.mono {T : Tab0} {F F' : Hp} {ρ ρ' : List Addr} {δ : Dn} {σ : St} (h : EnvR T F ρ δ σ) (x : Ext F ρ F' ρ') : EnvR T F' ρ' δ σ :=
  ⟨h.1, fun i d e => let ⟨v, h1, h2⟩ := h.2 i d e; ⟨v, h1, h2.mono x⟩⟩
theorem EnvR.set {T : Tab0} {F : Hp} {ρ : List Addr} {δ : Dn} {σ : St} (h : EnvR T F ρ δ σ) {d : D} {v : V} (r : Rep T F ρ d v) (i : Nat) : EnvR T F ρ (δ.set i (some d)) (σ.set i (some v)) := by
  refine ⟨by rw [List.length_set, List.length_set]; exact h.1, fun j e q => ?_⟩
  by_cases hj : j = i
  · subst hj
    have hl : j < δ.length := by
      have := (List.getElem?_eq_some_iff.mp q).1
      rw [List.length_set] at this; exact this
    rw [List.getElem?_set_self hl] at q
    cases q
    exact ⟨v, List.getElem?_set_self (by rw [← h.1]; exact hl), r⟩
  · rw [List.getElem?_set_ne (Ne.symm hj)] at q ⊢
    exact h.2 j e q
theorem EnvR.unset {T : Tab0} {F : Hp} {ρ : List Addr} {δ : Dn} {σ : St} (h : EnvR T F ρ δ σ) (i : Nat) : EnvR T F ρ (δ.set i none) (σ.set i none) := by
  refine ⟨by rw [List.length_set, List.length_set]; exact h.1, fun j e q => ?_⟩
  by_cases hj : j = i
  · subst hj
    have hl : j < δ.length := by
      have := (List.getElem?_eq_some_iff.mp q).1
      rw [List.length_set] at this; exact this
    rw [List.getElem?_set_self hl] at q
    cases q
  · rw [List.getElem?_set_ne (Ne.symm hj)] at q ⊢
    exact h.2 j e q

section
variable {α β : Type}
def Post (R : Hp → List Addr → α → β → Prop) (T : Tab) (W : WX) (σ : St) (F : Hp) (ρ : List Addr) (Q : β → Hp → Prop) : Out α → Prop
  | .ok a S' => ∀ F' ρ' H' b, Ext F ρ F' ρ' → Rel T F' ρ' S' H' → R F' ρ' a b → Q b H'
  | .exn c fs S' => ∀ F' ρ' H' cl dd, Ext F ρ F' ρ' → Rel T F' ρ' S' H' → ExcR T F' ρ' c fs cl dd → W cl dd σ H'
  | .bad => False
theorem Post.mono {R : Hp → List Addr → α → β → Prop} {T : Tab} {W : WX} {σ : St} {F F' : Hp} {ρ ρ' : List Addr} {Q : β → Hp → Prop} {o : Out α} (h : Post R T W σ F ρ Q o) (x : Ext F ρ F' ρ') : Post R T W σ F' ρ' Q o := by
  cases o with
  | ok a S => exact fun F2 ρ2 H2 b x2 r2 q => h F2 ρ2 H2 b (x.trans x2) r2 q
  | exn c fs S => exact fun F2 ρ2 H2 cl dd x2 r2 q => h F2 ρ2 H2 cl dd (x.trans x2) r2 q
  | bad => exact h
def tM (R : Hp → List Addr → α → β → Prop) (T : Tab) (W : WX) (m : Dn → Store → Out α) : St → Hp → (β → Hp → Prop) → Prop := fun σ H Q =>
  ∃ F ρ δ S, Rel T F ρ S H ∧ EnvR T F ρ δ σ ∧ Post R T W σ F ρ Q (m δ S)
def Out.bind {γ : Type} (o : Out α) (k : α → Store → Out γ) : Out γ := match o with
  | .ok a S => k a S
  | .exn c fs S => .exn c fs S
  | .bad => .bad
@[simp] theorem bind_ok {γ : Type} (a : α) (S : Store) (k : α → Store → Out γ) : (Out.ok a S).bind k = k a S := (rfl)
@[simp] theorem bind_exn {γ : Type} (c : Str) (fs : List (Str × D)) (S : Store) (k : α → Store → Out γ) : (Out.exn c fs S : Out α).bind k = .exn c fs S := (rfl)
@[simp] theorem bind_bad {γ : Type} (k : α → Store → Out γ) : (Out.bad : Out α).bind k = .bad := (rfl)
/-- the first part of two -/
theorem step {γ ε : Type} {R1 : Hp → List Addr → α → β → Prop} {R2 : Hp → List Addr → γ → ε → Prop} {T : Tab} {W : WX} {σ : St} {F H : Hp} {ρ : List Addr} {δ : Dn} {S : Store} {Q : ε → Hp → Prop} {m : Dn → Store → Out α} {k : α → Store → Out γ}
    (rel : Rel T F ρ S H) (env : EnvR T F ρ δ σ) (post : Post R2 T W σ F ρ Q ((m δ S).bind k)) :
    tM R1 T W m σ H (fun b H1 => ∃ F' ρ' S' a, Ext F ρ F' ρ' ∧ Rel T F' ρ' S' H1 ∧ EnvR T F' ρ' δ σ ∧ R1 F' ρ' a b ∧ Post R2 T W σ F' ρ' Q (k a S')) := by
  refine ⟨F, ρ, δ, S, rel, env, ?_⟩
  cases h : m δ S with
  | ok a S1 =>
    rw [h] at post
    exact fun F' ρ' H' b x r q => ⟨F', ρ', S1, a, x, r, env.mono x, q, post.mono x⟩
  | exn c fs S1 => rw [h] at post; exact post
  | bad => rw [h] at post; exact post
end
abbrev RD (T : Tab) : Hp → List Addr → D → V → Prop := Rep T
abbrev RA (T : Tab) : Hp → List Addr → List D → List V → Prop := Reps T
abbrev RB : Hp → List Addr → Bool → Bool → Prop := fun _ _ a b => a = b
abbrev tb (X : Cx) (A : AP) : Tab := ⟨⟨X.K, X.w, A.a⟩, A.P⟩

def SE (X : Cx) (A : AP) (W : WX) (e : Expr) (m : Dn → Store → Out D) : Prop := PE X e (tM (RD (tb X A)) (tb X A) W m)
def ST (X : Cx) (A : AP) (W : WX) (e : Expr) (m : Dn → Store → Out Bool) : Prop := PT X e (tM RB (tb X A) W m)
def SW (X : Cx) (A : AP) (W : WX) (e : Expr) (m : Dn → Store → Out Bool) : Prop := PW X e (tM RB (tb X A) W m)
def SA (X : Cx) (A : AP) (W : WX) (es : List Expr) (m : Dn → Store → Out (List D)) : Prop := PA X es (tM (RA (tb X A)) (tb X A) W m)
theorem PE.imp {X : Cx} {e : Expr} {t t' : TE} (h : PE X e t) (i : ∀ σ H Q, t' σ H Q → t σ H Q) : PE X e t' := ⟨fun pins s σ H Q I q => h.run pins s σ H Q I (i _ _ _ q)⟩
theorem PT.imp {X : Cx} {e : Expr} {t t' : TT} (h : PT X e t) (i : ∀ σ H Q, t' σ H Q → t σ H Q) : PT X e t' := ⟨fun pins s σ H Q I q => h.run pins s σ H Q I (i _ _ _ q)⟩
theorem PW.imp {X : Cx} {e : Expr} {t t' : TT} (h : PW X e t) (i : ∀ σ H Q, t' σ H Q → t σ H Q) : PW X e t' := ⟨fun wh pins s σ H Q I q => h.run wh pins s σ H Q I (i _ _ _ q)⟩
theorem PA.imp {X : Cx} {e : List Expr} {t t' : TA} (h : PA X e t) (i : ∀ σ H Q, t' σ H Q → t σ H Q) : PA X e t' := ⟨fun pos pins s σ H Q I q => h.run pos pins s σ H Q I (i _ _ _ q)⟩

/-! ### what a primitive gives -/
def PostO (T : Tab) (F : Hp) (ρ : List Addr) (Q : V → Hp → Prop) : Option (D × Store) → Prop
  | some (d, S') => ∀ F' ρ' H' v, Ext F ρ F' ρ' → Rel T F' ρ' S' H' → Rep T F' ρ' d v → Q v H'
  | none => False
def ofO {α : Type} : Option (α × Store) → Out α
  | some (d, S) => .ok d S
  | none => .bad
@[simp] theorem ofO_some {α : Type} (d : α) (S : Store) : ofO (some (d, S)) = .ok d S := (rfl)
@[simp] theorem ofO_none {α : Type} : ofO (none : Option (α × Store)) = .bad := (rfl)
theorem post_ofO {T : Tab} {W : WX} {σ : St} {F : Hp} {ρ : List Addr} {Q : V → Hp → Prop} {o : Option (D × Store)} (h : Post (RD T) T W σ F ρ Q (ofO o)) : PostO T F ρ Q o := by
  cases o with
  | none => exact h
  | some q => exact h
section
variable {T : Tab} {F H : Hp} {ρ : List Addr} {S : Store} {Q : V → Hp → Prop}
/-- the primitive's value, the heap as it is -/
theorem PostO.now {d : D} {v : V} (h : PostO T F ρ Q (some (d, S))) (rel : Rel T F ρ S H) (r : Rep T F ρ d v) : Q v H := h F ρ H v (Ext.refl F ρ) rel r
theorem PostO.tup {ds : List D} {vs : List V} (h : PostO T F ρ Q (some (.tup ds, S))) (rel : Rel T F ρ S H) (r : Reps T F ρ ds vs) : ∀ p, H p = none → Q (.ref p) (upd H p (.tup vs)) := fun p hp => by
  obtain ⟨r1, x⟩ := rel.new (o := .tup vs) hp
  exact h _ _ _ _ x r1 (.tup (.inl (.inl upd_same)) (r.mono x))
theorem PostO.lst {ds : List D} {vs : List V} (h : PostO T F ρ Q (some (.lst ds, S))) (rel : Rel T F ρ S H) (r : Reps T F ρ ds vs) : ∀ p, H p = none → Q (.ref p) (upd H p (.lst vs)) := fun p hp => by
  obtain ⟨r1, x⟩ := rel.new (o := .lst vs) hp
  exact h _ _ _ _ x r1 (.lst upd_same (r.mono x))
theorem PostO.dct {ds : List (Key × D)} {vs : List (Key × V)} (h : PostO T F ρ Q (some (.dct ds, S))) (rel : Rel T F ρ S H) (r : RepK T F ρ ds vs) : ∀ p, H p = none → Q (.ref p) (upd H p (.dK vs)) := fun p hp => by
  obtain ⟨r1, x⟩ := rel.new (o := .dK vs) hp
  exact h _ _ _ _ x r1 (.dct (.inl upd_same) (r.mono x))
/-- a new cell is handed out -/
theorem PostO.cellL {ds : List D} {vs : List V} (h : PostO T F ρ Q (some (.loc S.length, S ++ [.lst ds]))) (rel : Rel T F ρ S H) (r : Reps T F ρ ds vs) : ∀ p, H p = none → Q (.ref p) (upd H p (.lst vs)) := fun p hp => by
  have x : Ext F ρ F (ρ ++ [p]) := ⟨Le.refl F, List.prefix_append ρ [p]⟩
  exact h _ _ _ _ x (rel.cellNew (c := .lst ds) hp ⟨rel.freeF hp, vs, upd_same, r.mono x⟩ (by simp)) (.loc (by rw [← rel.len, List.getElem?_concat_length]))
theorem PostO.cellD {ds : List (Key × D)} {vs : List (Key × V)} (h : PostO T F ρ Q (some (.loc S.length, S ++ [.dct ds]))) (rel : Rel T F ρ S H) (r : RepK T F ρ ds vs) : ∀ p, H p = none → Q (.ref p) (upd H p (.dK vs)) := fun p hp => by
  have x : Ext F ρ F (ρ ++ [p]) := ⟨Le.refl F, List.prefix_append ρ [p]⟩
  exact h _ _ _ _ x (rel.cellNew (c := .dct ds) hp ⟨rel.freeF hp, vs, upd_same, r.mono x⟩ (by simp)) (.loc (by rw [← rel.len, List.getElem?_concat_length]))
/-- reading a cell -/
theorem Rel.lstAt {n : Nat} {ds : List D} {p : Addr} (rel : Rel T F ρ S H) (h : S[n]? = some (.lst ds)) (hp : ρ[n]? = some p) : ∃ vs, H p = some (.lst vs) ∧ Reps T F ρ ds vs := (rel.cell n _ p h hp).2
theorem Rel.dctAt {n : Nat} {ds : List (Key × D)} {p : Addr} (rel : Rel T F ρ S H) (h : S[n]? = some (.dct ds)) (hp : ρ[n]? = some p) : ∃ vs, H p = some (.dK vs) ∧ RepK T F ρ ds vs := (rel.cell n _ p h hp).2
theorem Rel.insAt {n : Nat} {c : Str} {fs : List (Str × D)} {p : Addr} (rel : Rel T F ρ S H) (h : S[n]? = some (.ins c fs)) (hp : ρ[n]? = some p) : ∃ dx fv, H p = some (.ins (T.A c) dx fv) ∧ RepF T F ρ fs fv := (rel.cell n _ p h hp).2
end
/-- a list's items -/
def asL (S : Store) : D → Option (List D)
  | .lst ds => some ds
  | .rol ds => some ds
  | .loc n => match S[n]? with
    | some (.lst ds) => some ds
    | _ => none
  | _ => none
/-- a list that one may write beside -/
def asM (S : Store) : D → Option (List D)
  | .lst ds => some ds
  | .loc n => match S[n]? with
    | some (.lst ds) => some ds
    | _ => none
  | _ => none
def asK (S : Store) : D → Option (List (Key × D))
  | .dct ds => some ds
  | .loc n => match S[n]? with
    | some (.dct ds) => some ds
    | _ => none
  | _ => none
@[simp] theorem asL_lst (S : Store) (ds : List D) : asL S (.lst ds) = some ds := (rfl)
@[simp] theorem asL_rol (S : Store) (ds : List D) : asL S (.rol ds) = some ds := (rfl)
@[simp] theorem asM_lst (S : Store) (ds : List D) : asM S (.lst ds) = some ds := (rfl)
@[simp] theorem asK_dct (S : Store) (ds : List (Key × D)) : asK S (.dct ds) = some ds := (rfl)
theorem asL_loc {S : Store} {n : Nat} {ds : List D} (h : S[n]? = some (.lst ds)) : asL S (.loc n) = some ds := by simp [asL, h]
theorem asM_loc {S : Store} {n : Nat} {ds : List D} (h : S[n]? = some (.lst ds)) : asM S (.loc n) = some ds := by simp [asM, h]
theorem asK_loc {S : Store} {n : Nat} {ds : List (Key × D)} (h : S[n]? = some (.dct ds)) : asK S (.loc n) = some ds := by simp [asK, h]
theorem asL_inv {S : Store} {n : Nat} {ds : List D} (h : asL S (.loc n) = some ds) : S[n]? = some (.lst ds) := by
  have h' : (match S[n]? with
    | some (.lst ds) => some ds
    | _ => none) = some ds := h
  split at h'
  · cases h'; assumption
  · cases h'
theorem asM_inv {S : Store} {n : Nat} {ds : List D} (h : asM S (.loc n) = some ds) : S[n]? = some (.lst ds) := asL_inv h
theorem asK_inv {S : Store} {n : Nat} {ds : List (Key × D)} (h : asK S (.loc n) = some ds) : S[n]? = some (.dct ds) := by
  have h' : (match S[n]? with
    | some (.dct ds) => some ds
    | _ => none) = some ds := h
  split at h'
  · cases h'; assumption
  · cases h'
section
variable {T : Tab} {F H : Hp} {ρ : List Addr} {S : Store}
theorem Rel.asL {d : D} {v : V} {ds : List D} (rel : Rel T F ρ S H) (r : Rep T F ρ d v) (h : asL S d = some ds) : ∃ p vs, v = .ref p ∧ SqL T.K H p vs ∧ Reps T F ρ ds vs := by
  cases r with
  | lst h0 r => cases h; exact ⟨_, _, rfl, .inl (.inl (rel.sub.ex h0 (fun _ z => by cases z))), r⟩
  | rol h0 r => cases h; exact ⟨_, _, rfl, rel.sub.seq h0, r⟩
  | @loc n p h0 =>
    obtain ⟨vs, h1, h2⟩ := rel.lstAt (asL_inv h) h0
    exact ⟨_, vs, rfl, .inl (.inl h1), h2⟩
  | _ => cases h
theorem Rel.asM {d : D} {v : V} {ds : List D} (rel : Rel T F ρ S H) (r : Rep T F ρ d v) (h : asM S d = some ds) : ∃ p vs, v = .ref p ∧ H p = some (.lst vs) ∧ Reps T F ρ ds vs := by
  cases r with
  | lst h0 r => cases h; exact ⟨_, _, rfl, rel.sub.ex h0 (fun _ z => by cases z), r⟩
  | @loc n p h0 =>
    obtain ⟨vs, h1, h2⟩ := rel.lstAt (asM_inv h) h0
    exact ⟨_, vs, rfl, h1, h2⟩
  | _ => cases h
theorem Rel.asK {d : D} {v : V} {ds : List (Key × D)} (rel : Rel T F ρ S H) (r : Rep T F ρ d v) (h : asK S d = some ds) : ∃ p vs, v = .ref p ∧ Rd H p (.dK vs) ∧ RepK T F ρ ds vs := by
  cases r with
  | dct h0 r => cases h; exact ⟨_, _, rfl, rel.sub.rdK h0, r⟩
  | @loc n p h0 =>
    obtain ⟨vs, h1, h2⟩ := rel.dctAt (asK_inv h) h0
    exact ⟨_, vs, rfl, .inl h1, h2⟩
  | _ => cases h
theorem sqT_sub {v : V} {ds : List D} (rel : Rel T F ρ S H) (r : Rep T F ρ (.tup ds) v) : ∃ p vs, v = .ref p ∧ SqT T.K H p vs ∧ Reps T F ρ ds vs := by
  cases r with
  | tup h0 r => exact ⟨_, _, rfl, rel.sub.tup h0, r⟩
end
end Dee

set_option maxRecDepth 100000
set_option maxHeartbeats 4000000
namespace Dee
open PySem L2
abbrev ME := Dn → Store → Out D
abbrev MA := Dn → Store → Out (List D)
abbrev MT := Dn → Store → Out Bool
abbrev P2 := D → D → Store → Option (D × Store)
abbrev P1 := D → Store → Option (D × Store)
abbrev PL := List D → Store → Option (D × Store)

/-! ### names and constants -/
def mVar (i : Nat) : ME := fun δ S => match δ[i]? with
  | some (some d) => .ok d S
  | _ => .bad
def mC (d : D) : ME := fun _ S => .ok d S
section
variable {X : Cx} {A : AP} {W : WX}
theorem se_var {i : Nat} {x : Str} {pos : Pos} (hN : X.N[i]? = some x := by rfl) (hv : Vis X.env.scope x := by first | exact Or.inl rfl | exact Or.inr (Or.inl rfl) | exact Or.inr (Or.inr rfl)) (hd : (x == ("__debug__" : Str)) = false := by decide)
    (hcd : (x == ("__classdict__" : Str)) = false := by decide) : SE X A W (.Name x pos) (mVar i) := by
  refine PE.imp (pe_var (i := i) hN hv hd hcd) fun σ H Q h => ?_
  obtain ⟨F, ρ, δ, S, rel, env, post⟩ := h
  unfold mVar at post
  split at post
  · rename_i d e
    obtain ⟨v, h1, h2⟩ := env.2 i d e
    exact ⟨v, h1, post F ρ H v (Ext.refl F ρ) rel h2⟩
  · exact post.elim
theorem se_con {e : Expr} {v : V} {d : D} (h : PE X e (tC v)) (r : ∀ F ρ, Rep (tb X A) F ρ d v) : SE X A W e (mC d) := by
  refine PE.imp h fun σ H Q h => ?_
  obtain ⟨F, ρ, δ, S, rel, env, post⟩ := h
  exact post F ρ H v (Ext.refl F ρ) rel (r F ρ)
theorem se_int {i j pos} : SE X A W (.Constant (.int i) j pos) (mC (.int i)) := se_con pe_int fun _ _ => .int i
theorem se_bl {i j pos} : SE X A W (.Constant (.bool i) j pos) (mC (.bl i)) := se_con pe_bl fun _ _ => .bl i
theorem se_str {i j pos} : SE X A W (.Constant (.str i) j pos) (mC (.str i)) := se_con pe_str fun _ _ => .str i
theorem se_non {j pos} : SE X A W (.Constant .none j pos) (mC .non) := se_con pe_non fun _ _ => .non
theorem se_glob {x : Str} {v : V} {u : Value} {d : D} {pos : Pos} (hm : X.mg x = some u) (r : RelV v u) (rd : ∀ F ρ, Rep (tb X A) F ρ d v) (hg : Gl X x := by rfl) (hd : (x == ("__debug__" : Str)) = false := by decide) : SE X A W (.Name x pos) (mC d) := se_con (pe_glob hg hm r hd) rd

end
/-! ### operators -/
def mBin (f : P2) (a b : ME) : ME := fun δ S => (a δ S).bind fun d1 S1 => (b δ S1).bind fun d2 S2 => ofO (f d1 d2 S2)
def mUn (f : P1) (a : ME) : ME := fun δ S => (a δ S).bind fun d S1 => ofO (f d S1)
def rD (T : Tab) (f : P2) : R2 := fun x y H Q => ∃ F ρ S d1 d2, Rel T F ρ S H ∧ Rep T F ρ d1 x ∧ Rep T F ρ d2 y ∧ PostO T F ρ Q (f d1 d2 S)
def rU1 (T : Tab) (f : P1) : V → Hp → VK → Prop := fun x H Q => ∃ F ρ S d, Rel T F ρ S H ∧ Rep T F ρ d x ∧ PostO T F ρ Q (f d S)
def OpD (X : Cx) (A : AP) (sem : Value → Value → Sem Value) (f : P2) : Prop := OpR X sem (rD (tb X A) f)
theorem tM.mono {α β : Type} {R : Hp → List Addr → α → β → Prop} {T : Tab} {W : WX} {m : Dn → Store → Out α} {σ : St} {H : Hp} {Q Q' : β → Hp → Prop} (h : tM R T W m σ H Q) (i : ∀ b H', Q b H' → Q' b H') : tM R T W m σ H Q' := by
  obtain ⟨F, ρ, δ, S, rel, env, post⟩ := h
  refine ⟨F, ρ, δ, S, rel, env, ?_⟩
  revert post
  generalize m δ S = o
  cases o with
  | ok d S2 => exact fun p F2 ρ2 H2 v x2 r2 q2 => i _ _ (p F2 ρ2 H2 v x2 r2 q2)
  | exn c fs S2 => exact fun p => p
  | bad => exact fun p => p
theorem two {T : Tab} {W : WX} {σ : St} {H : Hp} {Q : VK} {ma mb : ME} {f : P2} (h : tM (RD T) T W (mBin f ma mb) σ H Q) : tM (RD T) T W ma σ H fun x H1 => tM (RD T) T W mb σ H1 fun y H2 => rD T f x y H2 Q := by
  obtain ⟨F, ρ, δ, S, rel, env, post⟩ := h
  refine (step (R1 := RD T) rel env post).mono fun x H1 ⟨F1, ρ1, S1, d1, x1, rel1, env1, q1, post1⟩ => ?_
  exact (step (R1 := RD T) rel1 env1 post1).mono fun y H2 ⟨F2, ρ2, S2, d2, x2, rel2, env2, q2, post2⟩ => ⟨F2, ρ2, S2, d1, d2, rel2, q1.mono x2, q2, post_ofO post2⟩
theorem one {T : Tab} {W : WX} {σ : St} {H : Hp} {Q : VK} {ma : ME} {f : P1} (h : tM (RD T) T W (mUn f ma) σ H Q) : tM (RD T) T W ma σ H fun x H1 => rU1 T f x H1 Q := by
  obtain ⟨F, ρ, δ, S, rel, env, post⟩ := h
  exact (step (R1 := RD T) rel env post).mono fun x H1 ⟨F1, ρ1, S1, d1, x1, rel1, env1, q1, post1⟩ => ⟨F1, ρ1, S1, d1, rel1, q1, post_ofO post1⟩
section
variable {X : Cx} {A : AP} {W : WX} {a b c : Expr} {ma mb mc : ME} {pos : Pos}
theorem se_bin {op : Operator} {f : P2} (ho : OpD X A (binaryOp op) f) (ha : SE X A W a ma) (hb : SE X A W b mb) : SE X A W (.BinOp a op b pos) (mBin f ma mb) := PE.imp (pe_op ho ha hb) fun _ _ _ h => two h
theorem se_un {op : UnaryOp} {f : P1} (ho : UnR X (unaryOp op) (rU1 (tb X A) f)) (ha : SE X A W a ma) : SE X A W (.UnaryOp op a pos) (mUn f ma) := PE.imp (pe_un ho ha) fun _ _ _ h => one h
theorem se_cmp {op : CmpOp} {f : P2} (ho : OpD X A (compareOp op) f) (ha : SE X A W a ma) (hb : SE X A W b mb) (hm : behindInMarks op b = false := by first | exact nomark _ | rfl) : SE X A W (.Compare a [op] [b] pos) (mBin f ma mb) := PE.imp (pe_cmpR ho ha hb hm) fun _ _ _ h => two h
end
/-- a value that is a truth -/
def toB : Out D → Out Bool := fun o => o.bind fun d S => match d with
  | .bl b => .ok b S
  | _ => .bad
def tVal (m : ME) : MT := fun δ S => toB (m δ S)
theorem val_of {T : Tab} {W : WX} {σ : St} {H : Hp} {Q : Bool → Hp → Prop} {m : ME} (h : tM RB T W (tVal m) σ H Q) : tM (RD T) T W m σ H fun x H1 => ∃ k, x = .bl k ∧ Q k H1 := by
  obtain ⟨F, ρ, δ, S, rel, env, post⟩ := h
  refine (step (R1 := RD T) rel env post).mono fun x H1 ⟨F1, ρ1, S1, d1, x1, rel1, env1, q1, post1⟩ => ?_
  cases d1 with
  | bl b => cases q1; exact ⟨b, rfl, post1 _ _ _ _ (Ext.refl _ _) rel1 rfl⟩
  | _ => exact post1.elim
/-- two comparisons in a chain -/
def mChain (f g : P2) (a b c : ME) : ME := fun δ S => (a δ S).bind fun d1 S1 => (b δ S1).bind fun d2 S2 => (ofO (f d1 d2 S2)).bind fun d S3 => match d with
  | .bl true => (c δ S3).bind fun d3 S4 => ofO (g d2 d3 S4)
  | .bl false => .ok (.bl false) S3
  | _ => .bad
theorem chain_of {T : Tab} {W : WX} {σ : St} {H : Hp} {Q : VK} {ma mb mc : ME} {f g : P2} (h : tM (RD T) T W (mChain f g ma mb mc) σ H Q) : tChain (rD T f) (rD T g) (tM (RD T) T W ma) (tM (RD T) T W mb) (tM (RD T) T W mc) σ H Q := by
  obtain ⟨F, ρ, δ, S, rel, env, post⟩ := h
  refine (step (R1 := RD T) rel env post).mono fun x H1 ⟨F1, ρ1, S1, d1, x1, rel1, env1, q1, post1⟩ => ?_
  refine (step (R1 := RD T) rel1 env1 post1).mono fun y H2 ⟨F2, ρ2, S2, d2, x2, rel2, env2, q2, post2⟩ => ?_
  refine ⟨F2, ρ2, S2, d1, d2, rel2, q1.mono x2, q2, ?_⟩
  revert post2
  generalize f d1 d2 S2 = o
  cases o with
  | none => exact fun p => p
  | some o =>
    obtain ⟨d, S3⟩ := o
    intro p F3 ρ3 H3 v x3 rel3 q3
    cases q3 with
    | bl k =>
      refine ⟨k, rfl, ?_⟩
      cases k with
      | false => exact Post.mono (o := Out.ok (D.bl false) S3) p x3 _ _ _ _ (Ext.refl _ _) rel3 (.bl false)
      | true =>
        rw [if_pos rfl]
        have p' : Post (RD T) T W σ F3 ρ3 Q ((mc δ S3).bind fun d3 S4 => ofO (g d2 d3 S4)) := Post.mono p x3
        exact (step (R1 := RD T) rel3 (env2.mono x3) p').mono fun z H4 ⟨F4, ρ4, S4, d4, x4, rel4, env4, q4, post4⟩ => ⟨F4, ρ4, S4, d2, d4, rel4, q2.mono (x3.trans x4), q4, post_ofO post4⟩
    | _ => exact False.elim (by first | exact p | exact (p : False))
section
variable {X : Cx} {A : AP} {W : WX} {a b c : Expr} {ma mb mc : ME} {ta tb' : MT} {pos : Pos} {rest : List Expr}
theorem se_chain {op op' : CmpOp} {f g : P2} (ho : OpD X A (compareOp op) f) (ho' : OpD X A (compareOp op') g) (ha : SE X A W a ma) (hb : SE X A W b mb) (hc : SE X A W c mc) (hm : lastMarks [op, op'] [b, c] = false := by rfl) : SE X A W (.Compare a [op, op'] [b, c] pos) (mChain f g ma mb mc) := PE.imp (pe_chain ho ho' ha hb hc hm) fun _ _ _ h => chain_of h
theorem st_chain {op op' : CmpOp} {f g : P2} (ho : OpD X A (compareOp op) f) (ho' : OpD X A (compareOp op') g) (ha : SE X A W a ma) (hb : SE X A W b mb) (hc : SE X A W c mc) (hm : lastMarks [op, op'] [b, c] = false := by rfl) : ST X A W (.Compare a [op, op'] [b, c] pos) (tVal (mChain f g ma mb mc)) :=
  PT.imp (pt_chain ho ho' ha hb hc hm) fun σ H Q h => chain_of (Q := fun x H' => ∃ k, x = .bl k ∧ Q k H') (val_of h)
theorem st_cmp {op : CmpOp} {f : P2} (ho : OpD X A (compareOp op) f) (ha : SE X A W a ma) (hb : SE X A W b mb) (hm : behindInMarks op b = false := by first | exact nomark _ | rfl) : ST X A W (.Compare a [op] [b] pos) (tVal (mBin f ma mb)) :=
  PT.imp (pt_cmpR ho ha hb hm) fun _ _ _ h => two (val_of h)
/-- any other expression that gives a truth -/
theorem st_val {e : Expr} {m : ME} (h : SE X A W e m) (he : ∀ whole, isTrue e X.env whole = (do let v ← whole; standAt e.pos; holding [v] (truthy v)) := by intro _; rfl) : ST X A W e (tVal m) := PT.imp (pt_val h he) fun _ _ _ h => val_of h
/-! ### and, or, not, if as values -/
def mAnd (a b : ME) : ME := fun δ S => (toB (a δ S)).bind fun k S1 => if k = true then b δ S1 else .ok (.bl false) S1
def mOr (a b : ME) : ME := fun δ S => (toB (a δ S)).bind fun k S1 => if k = true then .ok (.bl true) S1 else b δ S1
def mNot (a : ME) : ME := fun δ S => (toB (a δ S)).bind fun k S1 => .ok (.bl (!k)) S1
def mIf (t : MT) (a b : ME) : ME := fun δ S => (t δ S).bind fun k S1 => if k = true then a δ S1 else b δ S1
def tAndD (a b : MT) : MT := fun δ S => (a δ S).bind fun k S1 => if k = true then b δ S1 else .ok false S1
def tOrD (a b : MT) : MT := fun δ S => (a δ S).bind fun k S1 => if k = true then .ok true S1 else b δ S1
def tNotD (a : MT) : MT := fun δ S => (a δ S).bind fun k S1 => .ok (!k) S1
theorem valstep {α β : Type} {R : Hp → List Addr → α → β → Prop} {T : Tab} {W : WX} {σ : St} {F H : Hp} {ρ : List Addr} {δ : Dn} {S : Store} {Q : β → Hp → Prop} {m : ME} {k : Bool → Store → Out α}
    (rel : Rel T F ρ S H) (env : EnvR T F ρ δ σ) (post : Post R T W σ F ρ Q ((toB (m δ S)).bind k)) :
    tM (RD T) T W m σ H (fun x H1 => ∃ c, x = .bl c ∧ ∃ F' ρ' S', Ext F ρ F' ρ' ∧ Rel T F' ρ' S' H1 ∧ EnvR T F' ρ' δ σ ∧ Post R T W σ F' ρ' Q (k c S')) := by
  have post' : Post R T W σ F ρ Q ((m δ S).bind fun d S => (match d with
    | .bl b => .ok b S
    | _ => .bad : Out Bool).bind k) := by
    revert post
    unfold toB
    cases m δ S with
    | ok a S => exact fun p => p
    | exn c fs S => exact fun p => p
    | bad => exact fun p => p
  refine (step (R1 := RD T) rel env post').mono fun x H1 ⟨F1, ρ1, S1, d1, x1, rel1, env1, q1, post1⟩ => ?_
  cases d1 with
  | bl b => cases q1; exact ⟨b, rfl, F1, ρ1, S1, x1, rel1, env1, post1⟩
  | _ => exact post1.elim
theorem se_one {op} {m : ME} (h : SE X A W a m) : SE X A W (.BoolOp op [a] pos) m := pe_one h
theorem se_and (ha : SE X A W a ma) (hb : SE X A W (.BoolOp .And (b :: rest) pos) mb) : SE X A W (.BoolOp .And (a :: b :: rest) pos) (mAnd ma mb) := by
  refine PE.imp (pe_and ha hb) fun σ H Q ⟨F, ρ, δ, S, rel, env, post⟩ => ?_
  refine (valstep rel env post).mono fun x H1 ⟨c, e, F1, ρ1, S1, x1, rel1, env1, p1⟩ => ⟨c, e, ?_⟩
  cases c with
  | true => exact ⟨F1, ρ1, δ, S1, rel1, env1, p1⟩
  | false => exact p1 _ _ _ _ (Ext.refl _ _) rel1 (.bl false)
theorem se_or (ha : SE X A W a ma) (hb : SE X A W (.BoolOp .Or (b :: rest) pos) mb) : SE X A W (.BoolOp .Or (a :: b :: rest) pos) (mOr ma mb) := by
  refine PE.imp (pe_or ha hb) fun σ H Q ⟨F, ρ, δ, S, rel, env, post⟩ => ?_
  refine (valstep rel env post).mono fun x H1 ⟨c, e, F1, ρ1, S1, x1, rel1, env1, p1⟩ => ⟨c, e, ?_⟩
  cases c with
  | false => exact ⟨F1, ρ1, δ, S1, rel1, env1, p1⟩
  | true => exact p1 _ _ _ _ (Ext.refl _ _) rel1 (.bl true)
theorem se_not (ha : SE X A W a ma) : SE X A W (.UnaryOp .Not a pos) (mNot ma) := by
  refine PE.imp (pe_not ha) fun σ H Q ⟨F, ρ, δ, S, rel, env, post⟩ => ?_
  exact (valstep rel env post).mono fun x H1 ⟨c, e, F1, ρ1, S1, x1, rel1, env1, p1⟩ => ⟨c, e, p1 _ _ _ _ (Ext.refl _ _) rel1 (.bl _)⟩
theorem se_if {t : Expr} {mt : MT} (ht : ST X A W t mt) (ha : SE X A W a ma) (hb : SE X A W b mb) : SE X A W (.IfExp t a b pos) (mIf mt ma mb) := by
  refine PE.imp (pe_ifExp ht ha hb) fun σ H Q ⟨F, ρ, δ, S, rel, env, post⟩ => ?_
  refine (step (R1 := RB) rel env post).mono fun x H1 ⟨F1, ρ1, S1, k, x1, rel1, env1, q1, p1⟩ => ?_
  subst q1
  cases k with
  | true => exact ⟨F1, ρ1, δ, S1, rel1, env1, p1⟩
  | false => exact ⟨F1, ρ1, δ, S1, rel1, env1, p1⟩
theorem sw_pt (h : SW X A W a ta) : ST X A W a ta := PW.pt h
theorem sw_and1 (h : ST X A W a ta) : SW X A W (.BoolOp .And [a] pos) ta := pw_and1 h
theorem sw_or1 (h : ST X A W a ta) : SW X A W (.BoolOp .Or [a] pos) ta := pw_or1 h
theorem sw_and (ha : ST X A W a ta) (hb : SW X A W (.BoolOp .And (b :: rest) pos) tb') : SW X A W (.BoolOp .And (a :: b :: rest) pos) (tAndD ta tb') := by
  refine PW.imp (pw_and ha hb) fun σ H Q ⟨F, ρ, δ, S, rel, env, post⟩ => ?_
  refine (step (R1 := RB) rel env post).mono fun x H1 ⟨F1, ρ1, S1, k, x1, rel1, env1, q1, p1⟩ => ?_
  subst q1
  cases k with
  | true => exact ⟨F1, ρ1, δ, S1, rel1, env1, p1⟩
  | false => exact p1 _ _ _ _ (Ext.refl _ _) rel1 rfl
theorem sw_or (ha : ST X A W a ta) (hb : SW X A W (.BoolOp .Or (b :: rest) pos) tb') : SW X A W (.BoolOp .Or (a :: b :: rest) pos) (tOrD ta tb') := by
  refine PW.imp (pw_or ha hb) fun σ H Q ⟨F, ρ, δ, S, rel, env, post⟩ => ?_
  refine (step (R1 := RB) rel env post).mono fun x H1 ⟨F1, ρ1, S1, k, x1, rel1, env1, q1, p1⟩ => ?_
  subst q1
  cases k with
  | false => exact ⟨F1, ρ1, δ, S1, rel1, env1, p1⟩
  | true => exact p1 _ _ _ _ (Ext.refl _ _) rel1 rfl
theorem st_not (ha : ST X A W a ta) : ST X A W (.UnaryOp .Not a pos) (tNotD ta) := by
  refine PT.imp (pt_not ha) fun σ H Q ⟨F, ρ, δ, S, rel, env, post⟩ => ?_
  refine (step (R1 := RB) rel env post).mono fun x H1 ⟨F1, ρ1, S1, k, x1, rel1, env1, q1, p1⟩ => ?_
  subst q1
  exact p1 _ _ _ _ (Ext.refl _ _) rel1 rfl
/-! ### arguments -/
def aNil : MA := fun _ S => .ok [] S
def aCons (a : ME) (r : MA) : MA := fun δ S => (a δ S).bind fun d S1 => (r δ S1).bind fun ds S2 => .ok (d :: ds) S2
theorem sa_nil : SA X A W [] aNil := PA.imp pa_nil fun σ H Q ⟨F, ρ, δ, S, rel, env, post⟩ => post _ _ _ _ (Ext.refl _ _) rel .nil
theorem sa_cons {e : Expr} {es : List Expr} {m : ME} {ms : MA} (ha : SE X A W e m) (hr : SA X A W es ms) (hs : starEach (e :: es) X.env = (false, eval e X.env) :: starEach es X.env := by rfl) : SA X A W (e :: es) (aCons m ms) := by
  refine PA.imp (pa_cons ha hr hs) fun σ H Q ⟨F, ρ, δ, S, rel, env, post⟩ => ?_
  refine (step (R1 := RD (tb X A)) rel env post).mono fun x H1 ⟨F1, ρ1, S1, d1, x1, rel1, env1, q1, p1⟩ => ?_
  refine (step (R1 := RA (tb X A)) rel1 env1 p1).mono fun y H2 ⟨F2, ρ2, S2, d2, x2, rel2, env2, q2, p2⟩ => ?_
  exact p2 _ _ _ _ (Ext.refl _ _) rel2 (.cons (q1.mono x2) q2)
/-- a built-in by its name -/
def mApp (f : PL) (a : MA) : ME := fun δ S => (a δ S).bind fun ds S1 => ofO (f ds S1)
def rL (T : Tab) (f : PL) : List V → Hp → VK → Prop := fun xs H Q => ∃ F ρ S ds, Rel T F ρ S H ∧ Reps T F ρ ds xs ∧ PostO T F ρ Q (f ds S)
def CallD (X : Cx) (A : AP) (fn : Value) (f : PL) : Prop := CallR X fn (rL (tb X A) f)
theorem app_of {T : Tab} {W : WX} {σ : St} {H : Hp} {Q : VK} {ms : MA} {f : PL} (h : tM (RD T) T W (mApp f ms) σ H Q) : tM (RA T) T W ms σ H fun xs H1 => rL T f xs H1 Q := by
  obtain ⟨F, ρ, δ, S, rel, env, post⟩ := h
  exact (step (R1 := RA T) rel env post).mono fun x H1 ⟨F1, ρ1, S1, d1, x1, rel1, env1, q1, post1⟩ => ⟨F1, ρ1, S1, d1, rel1, q1, post_ofO post1⟩
theorem se_callB {x : Str} {id : String} {f : PL} {e : Expr} {es : List Expr} {ms : MA} {p : Pos} (hc : CallD X A (.builtin id) f) (hm : X.mg x = none) (ha : SA X A W (e :: es) ms) (hv : bootBuiltins x = some (.builtin id) := by decide +kernel) (hg : Gl X x := by rfl)
    (hn : x ≠ "__name__" := by decide) (hdb : (x == ("__debug__" : Str)) = false := by decide) (he : starEach (e :: es) X.env = (false, eval e X.env) :: starEach es X.env := by rfl) (hpl : (backTo pos (starEach es X.env)).any (·.1) = false := by rfl) :
    SE X A W (.Call (.Name x p) (e :: es) [] pos) (mApp f ms) := PE.imp (pe_callB hc hg hm hv ha hn hdb he hpl) fun _ _ _ h => app_of h
theorem se_callTy {x : Str} {id : String} {f : PL} {e : Expr} {es : List Expr} {ms : MA} {p : Pos} (hc : CallD X A (.type id) f) (hm : X.mg x = none) (ha : SA X A W (e :: es) ms) (hv : bootBuiltins x = some (.type id) := by decide +kernel) (hg : Gl X x := by rfl)
    (hn : x ≠ "__name__" := by decide) (hdb : (x == ("__debug__" : Str)) = false := by decide) (he : starEach (e :: es) X.env = (false, eval e X.env) :: starEach es X.env := by rfl) (hpl : (backTo pos (starEach es X.env)).any (·.1) = false := by rfl) :
    SE X A W (.Call (.Name x p) (e :: es) [] pos) (mApp f ms) := PE.imp (pe_callTy hc hg hm hv ha hn hdb he hpl) fun _ _ _ h => app_of h
/-! ### the program's own defs -/
def mCall (g : List D → Store → Out D) (a : MA) : ME := fun δ S => (a δ S).bind fun ds S1 => g ds S1
/-- a def's promise: it gives what g gives, whatever stands aside -/
def spD (T : Tab0) (n : Nat) (g : List D → Store → Out D) : Sp := fun vs H Q E => ∃ P F ρ S ds, Rel ⟨T, P⟩ F ρ S H ∧ Reps T F ρ ds vs ∧ ds.length = n ∧ Post (RD ⟨T, P⟩) ⟨T, P⟩ (fun c d _ H => E c d H) [] F ρ Q (g ds S)
abbrev t0 (X : Cx) (a : Str → Addr) : Tab0 := ⟨X.K, X.w, a⟩
theorem call_of {T : Tab} {W : WX} {σ : St} {H : Hp} {Q : VK} {ms : MA} {g : List D → Store → Out D} {n : Nat} (hn : ∀ ds S, g ds S ≠ .bad → ds.length = n) (h : tM (RD T) T W (mCall g ms) σ H Q) : tM (RA T) T W ms σ H fun xs H1 => spD T n g xs H1 Q (WE W σ) := by
  obtain ⟨F, ρ, δ, S, rel, env, post⟩ := h
  refine (step (R1 := RA T) rel env post).mono fun x H1 ⟨F1, ρ1, S1, d1, x1, rel1, env1, q1, post1⟩ => ⟨T.P, F1, ρ1, S1, d1, rel1, q1, hn _ S1 fun z => ?_, ?_⟩
  · rw [z] at post1; exact post1
  · revert post1
    generalize g d1 S1 = o
    cases o with
    | ok a S => exact fun p => p
    | exn c fs S => exact fun p => p
    | bad => exact fun p => p
theorem se_call {k : Nat} {f : Addr} {fd : FuncData} {ps : List Str} {n : Nat} {g : List D → Store → Out D} {x : Str} {e : Expr} {es : List Expr} {ms : MA} {p : Pos} (G : FnOk X.prog X.w X.K X.mg X.base (L2.CX X.prog X.w) k f fd ps (spD (t0 X A.a) n g)) (hn : ∀ ds S, g ds S ≠ .bad → ds.length = n)
    (hr : Room k X.A) (hm : X.mg x = some (.ref f)) (hk : PySem.W.keepIn X.K (.ref f) = true) (hb : Binds X.K fd ps []) (tk : Takes X W) (ha : SA X A W (e :: es) ms) (hg : Gl X x := by rfl)
    (hdb : (x == ("__debug__" : Str)) = false := by decide) (he : starEach (e :: es) X.env = (false, eval e X.env) :: starEach es X.env := by rfl) (hpl : (backTo pos (starEach es X.env)).any (·.1) = false := by rfl) :
    SE X A W (.Call (.Name x p) (e :: es) [] pos) (mCall g ms) := PE.imp (pe_callS (E := WE W) G hr hg hm hk hb (fun σ => passAt tk σ) ha hdb he hpl) fun _ _ _ h => call_of hn h
end
/-! ### primitives: numbers, texts, lists, tuples -/
/-- a new list: data, or one that may change -/
def outL (m : Bool) (ds : List D) (S : Store) : Option (D × Store) := if m = true then some (.loc S.length, S ++ [.lst ds]) else some (.lst ds, S)
def outK (m : Bool) (ds : List (Key × D)) (S : Store) : Option (D × Store) := if m = true then some (.loc S.length, S ++ [.dct ds]) else some (.dct ds, S)
@[simp] theorem outL_f (ds : List D) (S : Store) : outL false ds S = some (.lst ds, S) := (rfl)
@[simp] theorem outL_t (ds : List D) (S : Store) : outL true ds S = some (.loc S.length, S ++ [.lst ds]) := (rfl)
@[simp] theorem outK_f (ds : List (Key × D)) (S : Store) : outK false ds S = some (.dct ds, S) := (rfl)
@[simp] theorem outK_t (ds : List (Key × D)) (S : Store) : outK true ds S = some (.loc S.length, S ++ [.dct ds]) := (rfl)
theorem PostO.outL {T : Tab} {F H : Hp} {ρ : List Addr} {S : Store} {Q : V → Hp → Prop} {m : Bool} {ds : List D} {vs : List V} (h : PostO T F ρ Q (outL m ds S)) (rel : Rel T F ρ S H) (r : Reps T F ρ ds vs) : ∀ p, H p = none → Q (.ref p) (upd H p (.lst vs)) := by
  cases m with
  | false => exact PostO.lst h rel r
  | true => exact PostO.cellL h rel r
theorem PostO.outK {T : Tab} {F H : Hp} {ρ : List Addr} {S : Store} {Q : V → Hp → Prop} {m : Bool} {ds : List (Key × D)} {vs : List (Key × V)} (h : PostO T F ρ Q (outK m ds S)) (rel : Rel T F ρ S H) (r : RepK T F ρ ds vs) : ∀ p, H p = none → Q (.ref p) (upd H p (.dK vs)) := by
  cases m with
  | false => exact PostO.dct h rel r
  | true => exact PostO.cellD h rel r
theorem big_line {n : Nat} (h : n ≤ 1000000) : n ≤ sizeLine := Nat.le_trans h (by rw [sizeLine_eq]; decide)
def addD (m : Bool) : P2
  | .int a, .int b, S => some (.int (a + b), S)
  | .str a, .str b, S => if a.length + b.length ≤ 1000000 then some (.str (a ++ b), S) else none
  | .tup a, .tup b, S => if a.length + b.length ≤ 1000000 then some (.tup (a ++ b), S) else none
  | x, y, S => match asM S x, asM S y with
    | some a, some b => if a.length + b.length ≤ 1000000 then outL m (a ++ b) S else none
    | _, _ => none
section
variable {X : Cx} {A : AP}
theorem od_add {m : Bool} : OpD X A (binaryOp .Add) (addD m) := by
  intro pins s σ H x y v u Q I rx ry h
  obtain ⟨F, ρ, S, d1, d2, rel, r1, r2, post⟩ := h
  unfold addD at post
  split at post
  · cases r1; cases r2
    exact op_add pins s σ H _ _ v u Q I rx ry ⟨_, _, rfl, rfl, post.now rel (.int _)⟩
  · cases r1; cases r2
    split at post
    · rename_i hl
      exact op_add_str pins s σ H _ _ v u Q I rx ry ⟨_, _, rfl, rfl, big_line hl, post.now rel (.str _)⟩
    · exact post.elim
  · split at post
    · rename_i hl
      obtain ⟨p, xs, rfl, h1, q1⟩ := sqT_sub rel r1
      obtain ⟨q, ys, rfl, h2, q2⟩ := sqT_sub rel r2
      refine op_catA pins s σ H _ _ v u Q I rx ry ⟨p, q, xs, ys, rfl, rfl, h1, h2, by rw [← q1.len, ← q2.len]; exact big_line hl, fun e => ?_, fun _ e => ?_, fun _ _ => ?_⟩
      · subst e
        cases q1
        exact post.now rel r2
      · subst e
        cases q2
        rw [List.append_nil] at post
        exact post.now rel r1
      · exact post.tup rel (q1.append q2)
    · exact post.elim
  · split at post
    · rename_i a b e1 e2
      split at post
      · rename_i hl
        obtain ⟨p, xs, rfl, h1, q1⟩ := rel.asM r1 e1
        obtain ⟨q, ys, rfl, h2, q2⟩ := rel.asM r2 e2
        exact op_cat pins s σ H _ _ v u Q I rx ry ⟨p, q, xs, ys, rfl, rfl, h1, h2, by rw [← q1.len, ← q2.len]; exact big_line hl, post.outL rel (q1.append q2)⟩
      · exact post.elim
    · exact post.elim
end
end Dee

set_option maxRecDepth 100000
set_option maxHeartbeats 4000000
namespace Dee
open PySem L2
/-! ### equality -/
def scEq : D → D → Option Bool
  | .int a, .int b => some (decide (a = b))
  | .str a, .str b => some (decide (a = b))
  | .bl a, .bl b => some (decide (a = b))
  | .non, .non => some true
  | .non, .int _ => some false | .non, .bl _ => some false | .non, .str _ => some false
  | .int _, .non => some false | .bl _, .non => some false | .str _, .non => some false
  | .int _, .str _ => some false | .str _, .int _ => some false
  | .bl _, .str _ => some false | .str _, .bl _ => some false
  | _, _ => none
def isTup : D → Bool
  | .tup _ => true
  | _ => false
def asT : D → Option (List D)
  | .tup ds => some ds
  | _ => none
theorem asT_inv {d : D} {ds : List D} (h : asT d = some ds) : d = .tup ds := by
  cases d <;> first | (cases h; rfl) | cases h
/-- all in turn -/
def eqZ (f : D → D → Option Bool) : List D → List D → Option Bool
  | x :: xs, y :: ys => match f x y, eqZ f xs ys with
    | some b, some c => some (b && c)
    | _, _ => none
  | _, _ => some true
/-- a list's or a tuple's side that stands beside a flat one -/
def sqD (S : Store) (d : D) : Bool := isTup d || (asL S d).isSome
def eqD (S : Store) : Nat → D → D → Option Bool
  | 0, _, _ => none
  | n + 1, a, b => match scEq a b with
    | some r => some r
    | none => match asT a, asT b with
      | some xs, some ys => match eqZ (eqD S n) xs ys with
        | some r => some (r && decide (xs.length = ys.length))
        | none => none
      | _, _ => match asL S a, asL S b with
        | some xs, some ys => if xs.length = ys.length then eqZ (eqD S n) xs ys else some false
        | some _, none => if isTup b || (flD b).isSome then some false else none
        | none, some _ => if isTup a || (flD a).isSome then some false else none
        | none, none => if (isTup a && (flD b).isSome) || (isTup b && (flD a).isSome) then some false else none
theorem range_all_succ (n : Nat) (e : Nat → Bool) : (List.range (n + 1)).all e = (e 0 && (List.range n).all fun j => e (j + 1)) := by
  rw [List.range_succ_eq_map, List.all_cons, List.all_map]; rfl
theorem eqZ_some {f : D → D → Option Bool} : ∀ {xs ys : List D} {r : Bool}, eqZ f xs ys = some r → ∃ e : Nat → Bool, r = (List.range (min xs.length ys.length)).all e ∧ ∀ j x y, xs[j]? = some x → ys[j]? = some y → f x y = some (e j)
  | [], ys, r, h => ⟨fun _ => true, by simp only [eqZ] at h; cases h; simp, fun j x y h => by simp at h⟩
  | x :: xs, [], r, h => ⟨fun _ => true, by simp only [eqZ] at h; cases h; simp, fun j x y _ h => by simp at h⟩
  | x :: xs, y :: ys, r, h => by
    unfold eqZ at h
    split at h
    · rename_i b c h1 h2
      cases h
      obtain ⟨e, he, hj⟩ := eqZ_some h2
      refine ⟨fun j => match j with
        | 0 => b
        | j + 1 => e j, ?_, fun j x' y' e1 e2 => ?_⟩
      · have hm : min (x :: xs).length (y :: ys).length = min xs.length ys.length + 1 := by simp only [List.length_cons]; omega
        rw [hm, range_all_succ, he]
      · cases j with
        | zero => simp at e1 e2; subst e1 e2; exact h1
        | succ j => exact hj j x' y' (by simpa using e1) (by simpa using e2)
    · cases h
section
variable {X : Cx} {A : AP} {pins : List (Addr × Obj)} {σ : St} {H F : Hp} {s : Shared} {ρ : List Addr} {S : Store}
theorem flD_rep {T : Tab0} {d : D} {v : V} {x : V} (r : Rep T F ρ d v) (h : flD d = some x) : v = x ∧ flatV v = true := by
  cases r with
  | non => cases h; exact ⟨rfl, rfl⟩
  | bl b => cases h; exact ⟨rfl, rfl⟩
  | int b => cases h; exact ⟨rfl, rfl⟩
  | str b => cases h; exact ⟨rfl, rfl⟩
  | _ => cases h
theorem scEq_V {T : Tab0} {a b : D} {x y : V} {r : Bool} (h : scEq a b = some r) (ra : Rep T F ρ a x) (rb : Rep T F ρ b y) : flatV x = true ∧ flatV y = true ∧ eqV x y = r ∧ scal x y = true ∧ decide (x = y) = r := by
  cases ra <;> cases rb <;> first
    | (cases h; exact ⟨rfl, rfl, rfl, rfl, rfl⟩)
    | (cases h; refine ⟨rfl, rfl, ?_, rfl, ?_⟩ <;> simp [eqV, Bool.beq_eq_decide_eq])
    | cases h
/-- what stands at a list, a tuple -/
theorem at_seq (I : Inv X pins σ H s) (rel : Rel (tb X A) F ρ S H) {d : D} {v : V} {u : Value} {ds : List D} (r : Rep (tb X A) F ρ d v) (ru : RelV v u) (h : asL S d = some ds) : ∃ p us vs, v = .ref p ∧ u = .ref p ∧ SqL X.K H p vs ∧ s.heap.IsList p us.toArray ∧ Vals vs us ∧ Reps (tb X A) F ρ ds vs := by
  obtain ⟨p, vs, rfl, hs, rs⟩ := rel.asL r h
  obtain ⟨us, rv, pl, _⟩ := I.list hs
  exact ⟨p, us, vs, rfl, ru, hs, pl.isList, rv, rs⟩
theorem at_tup (I : Inv X pins σ H s) (rel : Rel (tb X A) F ρ S H) {v : V} {u : Value} {ds : List D} (r : Rep (tb X A) F ρ (.tup ds) v) (ru : RelV v u) : ∃ p us vs, v = .ref p ∧ u = .ref p ∧ SqT X.K H p vs ∧ s.heap.IsTuple p us.toArray ∧ Vals vs us ∧ Reps (tb X A) F ρ ds vs := by
  obtain ⟨p, vs, rfl, hs, rs⟩ := sqT_sub rel r
  obtain ⟨us, rv, pl, _⟩ := I.tuple hs
  exact ⟨p, us, vs, rfl, ru, hs, pl, rv, rs⟩
theorem flat_at' (ry : Rep (tb X A) F ρ d v) (h : (flD d).isSome = true) : flatV v = true := by
  obtain ⟨x, e⟩ := Option.isSome_iff_exists.mp h
  exact (flD_rep ry e).2
/-- flat beside a list or a tuple -/
theorem seq_flat {A' : Around} {y : V} {u : Value} {l : Addr} {items : Array Value} (hu : A'.units < cLine) (ry : RelV y u) (f : flatV y = true) (hl : s.heap.IsList l items ∨ s.heap.IsTuple l items) :
    SeqAt.EqAt A' s (.ref l) u false ∧ SeqAt.EqAt A' s u (.ref l) false ∧ SeqAt.RcAt A' s (.ref l) u false ∧ SeqAt.RcAt A' s u (.ref l) false ∧ SeqAt.RcNeAt A' s (.ref l) u true ∧ SeqAt.RcNeAt A' s u (.ref l) true := by
  cases y with
  | non =>
    cases ry
    rcases hl with hl | hl
    · exact ⟨.list_none hl hu, .none_list hl hu, .list_none hl hu, .none_list hl hu, .list_none hl hu, .none_list hl hu⟩
    · exact ⟨.tuple_none hl hu, .none_tuple hl hu, .tuple_none hl hu, .none_tuple hl hu, .tuple_none hl hu, .none_tuple hl hu⟩
  | bl b =>
    cases ry
    rcases hl with hl | hl
    · exact ⟨.list_bool b hl hu, .bool_list b hl hu, .list_bool b hl hu, .bool_list b hl hu, .list_bool b hl hu, .bool_list b hl hu⟩
    · exact ⟨.tuple_bool b hl hu, .bool_tuple b hl hu, .tuple_bool b hl hu, .bool_tuple b hl hu, .tuple_bool b hl hu, .bool_tuple b hl hu⟩
  | int b =>
    obtain ⟨t, rfl⟩ := ry
    rcases hl with hl | hl
    · exact ⟨.list_int b t hl hu, .int_list b t hl hu, .list_int b t hl hu, .int_list b t hl hu, .list_int b t hl hu, .int_list b t hl hu⟩
    · exact ⟨.tuple_int b t hl hu, .int_tuple b t hl hu, .tuple_int b t hl hu, .int_tuple b t hl hu, .tuple_int b t hl hu, .int_tuple b t hl hu⟩
  | str b =>
    obtain ⟨t, rfl⟩ := ry
    rcases hl with hl | hl
    · exact ⟨.list_str b t hl hu, .str_list b t hl hu, .list_str b t hl hu, .str_list b t hl hu, .list_str b t hl hu, .str_list b t hl hu⟩
    · exact ⟨.tuple_str b t hl hu, .str_tuple b t hl hu, .tuple_str b t hl hu, .str_tuple b t hl hu, .tuple_str b t hl hu, .str_tuple b t hl hu⟩
  | _ => exact absurd f Bool.false_ne_true
/-- two data at one address are alike -/
theorem eqD_same (I : Inv X pins σ H s) (rel : Rel (tb X A) F ρ S H) : ∀ (n : Nat) (a b : D) (r : Bool) (x : V), eqD S n a b = some r → Rep (tb X A) F ρ a x → Rep (tb X A) F ρ b x → r = true
  | 0, _, _, _, _, h, _, _ => by cases h
  | n + 1, a, b, r, x, h, ra, rb => by
    have zip : ∀ (xs ys : List D) (vs : List V) (q : Bool), eqZ (eqD S n) xs ys = some q → Reps (tb X A) F ρ xs vs → Reps (tb X A) F ρ ys vs → q = true := fun xs ys vs q hq rx ry => by
      obtain ⟨e, he, hj⟩ := eqZ_some hq
      rw [he, List.all_eq_true]
      intro j hm
      have hjl := List.mem_range.mp hm
      obtain ⟨x', hx'⟩ : ∃ x', xs[j]? = some x' := ⟨xs[j]'(by omega), List.getElem?_eq_getElem _⟩
      obtain ⟨y', hy'⟩ : ∃ y', ys[j]? = some y' := ⟨ys[j]'(by omega), List.getElem?_eq_getElem _⟩
      obtain ⟨v, hv, r1⟩ := rx.get hx'
      obtain ⟨v', hv', r2⟩ := ry.get hy'
      rw [hv] at hv'; cases hv'
      exact eqD_same I rel n x' y' _ v (hj j x' y' hx' hy') r1 r2
    unfold eqD at h
    split at h
    · rename_i q hq
      cases h
      obtain ⟨_, _, _, _, h5⟩ := scEq_V hq ra rb
      rw [← h5]; simp
    · split at h
      · rename_i xs ys t1 t2
        have t1 := asT_inv t1
        have t2 := asT_inv t2
        subst t1 t2
        split at h
        · rename_i q hq
          cases h
          obtain ⟨p, vs, e1, s1, r1⟩ := sqT_sub rel ra
          obtain ⟨p', vs', e2, s2, r2⟩ := sqT_sub rel rb
          rw [e1] at e2; cases e2
          have ev := I.tuple_inj s1 s2
          subst ev
          rw [zip xs ys vs q hq r1 r2, r1.len, r2.len]; simp
        · cases h
      · split at h
        · rename_i xs ys h1 h2
          obtain ⟨p, vs, e1, s1, r1⟩ := rel.asL ra h1
          obtain ⟨p', vs', e2, s2, r2⟩ := rel.asL rb h2
          rw [e1] at e2; cases e2
          have ev := I.list_inj s1 s2
          subst ev
          rw [if_pos (by rw [r1.len, r2.len])] at h
          exact zip xs ys vs r h r1 r2
        · rename_i xs h1 h2
          obtain ⟨p, vs, e1, s1, r1⟩ := rel.asL ra h1
          split at h
          · rename_i hc
            subst e1
            obtain ⟨us, rv, ⟨o, _, ho, hcl, _⟩, _⟩ := I.list s1
            rw [Bool.or_eq_true] at hc
            rcases hc with hc | hc
            · cases b with
              | tup ys =>
                obtain ⟨p', vs', e2, s2, r2⟩ := sqT_sub rel rb
                cases e2
                obtain ⟨_, _, ⟨o', ho', hc', _⟩, _⟩ := I.tuple s2
                rw [ho] at ho'; cases ho'; rw [hcl] at hc'; exact absurd (Value.type.inj hc') (by decide)
              | _ => cases hc
            · have z := flat_at' rb hc; cases z
          · cases h
        · rename_i xs h1 h2
          obtain ⟨p, vs, e1, s1, r1⟩ := rel.asL rb h2
          split at h
          · rename_i hc
            subst e1
            obtain ⟨us, rv, ⟨o, _, ho, hcl, _⟩, _⟩ := I.list s1
            rw [Bool.or_eq_true] at hc
            rcases hc with hc | hc
            · cases a with
              | tup ys =>
                obtain ⟨p', vs', e2, s2, r2⟩ := sqT_sub rel ra
                cases e2
                obtain ⟨_, _, ⟨o', ho', hc', _⟩, _⟩ := I.tuple s2
                rw [ho] at ho'; cases ho'; rw [hcl] at hc'; exact absurd (Value.type.inj hc') (by decide)
              | _ => cases hc
            · have z := flat_at' ra hc; cases z
          · cases h
        · split at h
          · rename_i hc
            rw [Bool.or_eq_true, Bool.and_eq_true, Bool.and_eq_true] at hc
            rcases hc with ⟨h1, h2⟩ | ⟨h1, h2⟩
            · cases a with
              | tup ys =>
                obtain ⟨p', vs', e2, s2, r2⟩ := sqT_sub rel ra
                subst e2
                have z := flat_at' rb h2; cases z
              | _ => cases h1
            · cases b with
              | tup ys =>
                obtain ⟨p', vs', e2, s2, r2⟩ := sqT_sub rel rb
                subst e2
                have z := flat_at' ra h2; cases z
              | _ => cases h1
          · cases h
/-- the items' answers, by places -/
theorem zip_at {A' : Around} {n : Nat} {xs ys : List D} {vs ws : List V} {us zs : List Value} (ih : ∀ (a b : D) (r : Bool) (x y : V) (u v : Value), eqD S n a b = some r → Rep (tb X A) F ρ a x → Rep (tb X A) F ρ b y → RelV x u → RelV y v → SeqAt.EqAt A' s u v r)
    (rx : Reps (tb X A) F ρ xs vs) (ry : Reps (tb X A) F ρ ys ws) (vx : Vals vs us) (vy : Vals ws zs) {e : Nat → Bool} (he : ∀ j x y, xs[j]? = some x → ys[j]? = some y → eqD S n x y = some (e j)) :
    ∀ j (h1 : j < us.toArray.size) (h2 : j < zs.toArray.size), SeqAt.EqAt A' s us.toArray[j] zs.toArray[j] (e j) := fun j h1 h2 => by
  have h1' : j < us.length := by simpa using h1
  have h2' : j < zs.length := by simpa using h2
  have l1 : j < xs.length := by rw [rx.len, vx.length]; exact h1'
  have l2 : j < ys.length := by rw [ry.len, vy.length]; exact h2'
  obtain ⟨v, hv, q1⟩ := rx.get (List.getElem?_eq_getElem l1)
  obtain ⟨w, hw, q2⟩ := ry.get (List.getElem?_eq_getElem l2)
  obtain ⟨u, hu, p1⟩ := vx.get hv
  obtain ⟨z, hz, p2⟩ := vy.get hw
  have := ih _ _ _ v w u z (he j _ _ (List.getElem?_eq_getElem l1) (List.getElem?_eq_getElem l2)) q1 q2 p1 p2
  rw [List.getElem?_eq_getElem h1'] at hu; cases hu
  rw [List.getElem?_eq_getElem h2'] at hz; cases hz
  simpa using this
/-- a comparison that is not of two flat things -/
theorem rcD {A' : Around} (hu : A'.units < cLine) (I : Inv X pins σ H s) (rel : Rel (tb X A) F ρ S H) {n : Nat} {a b : D} {r : Bool} {x y : V} {u v : Value}
    (ih : ∀ (a b : D) (r : Bool) (x y : V) (u v : Value), eqD S n a b = some r → Rep (tb X A) F ρ a x → Rep (tb X A) F ρ b y → RelV x u → RelV y v → SeqAt.EqAt A'.in1 s u v r)
    (h : eqD S (n + 1) a b = some r) (hs : scEq a b = none) (ra : Rep (tb X A) F ρ a x) (rb : Rep (tb X A) F ρ b y) (ru : RelV x u) (rv : RelV y v) :
    SeqAt.RcAt A' s u v r ∧ SeqAt.RcNeAt A' s u v (!r) ∧ (u ≠ v → SeqAt.EqAt A' s u v r) := by
  have h0 := h
  unfold eqD at h
  rw [hs] at h
  dsimp only at h
  split at h
  · rename_i xs ys t1 t2
    have t1 := asT_inv t1
    have t2 := asT_inv t2
    subst t1 t2
    split at h
    · rename_i q hq
      cases h
      obtain ⟨p, us, vs, rfl, rfl, _, tx, vx, rx⟩ := at_tup I rel ra ru
      obtain ⟨p', zs, ws, rfl, rfl, _, ty, vy, ry⟩ := at_tup I rel rb rv
      obtain ⟨e, he, hj⟩ := eqZ_some hq
      have hz := zip_at ih rx ry vx vy hj
      have er : ((List.range (min us.toArray.size zs.toArray.size)).all e && us.toArray.size == zs.toArray.size) = (q && decide (xs.length = ys.length)) := by
        rw [he, List.size_toArray, List.size_toArray, ← vx.length, ← vy.length, ← rx.len, ← ry.len, Bool.beq_eq_decide_eq]
      have k1 : SeqAt.RcAt A' s (.ref p) (.ref p') (q && decide (xs.length = ys.length)) := by rw [← er]; exact SeqAt.RcAt.tuples tx ty hu hz
      have k2 : SeqAt.RcNeAt A' s (.ref p) (.ref p') (!(q && decide (xs.length = ys.length))) := by rw [← er]; exact SeqAt.RcNeAt.tuples tx ty hu hz
      exact ⟨k1, k2, fun ne => SeqAt.EqAt.of_refs (fun z => ne (by rw [z])) k1⟩
    · cases h
  · split at h
    · rename_i xs ys h1 h2
      obtain ⟨p, us, vs, rfl, rfl, _, tx, vx, rx⟩ := at_seq I rel ra ru h1
      obtain ⟨p', zs, ws, rfl, rfl, _, ty, vy, ry⟩ := at_seq I rel rb rv h2
      have l1 : us.toArray.size = xs.length := by rw [List.size_toArray, ← vx.length, ← rx.len]
      have l2 : zs.toArray.size = ys.length := by rw [List.size_toArray, ← vy.length, ← ry.len]
      split at h
      · rename_i hl
        obtain ⟨e, he, hj⟩ := eqZ_some h
        have hz := zip_at ih rx ry vx vy hj
        have er : (List.range us.toArray.size).all e = r := by
          rw [he, l1]
          have : min xs.length ys.length = xs.length := by omega
          rw [this]
        have k1 : SeqAt.RcAt A' s (.ref p) (.ref p') r := by rw [← er]; exact SeqAt.RcAt.lists tx ty (by rw [l1, l2, hl]) hu hz
        have k2 : SeqAt.RcNeAt A' s (.ref p) (.ref p') (!r) := by rw [← er]; exact SeqAt.RcNeAt.lists tx ty (by rw [l1, l2, hl]) hu hz
        exact ⟨k1, k2, fun ne => SeqAt.EqAt.of_refs (fun z => ne (by rw [z])) k1⟩
      · rename_i hl
        cases h
        have hb : (us.toArray.size != zs.toArray.size) = true := by rw [l1, l2]; simpa using hl
        exact ⟨SeqAt.RcAt.lists_lengths tx ty hb hu, SeqAt.RcNeAt.lists_lengths tx ty hb hu, fun ne => SeqAt.EqAt.of_refs (fun z => ne (by rw [z])) (SeqAt.RcAt.lists_lengths tx ty hb hu)⟩
    · rename_i xs h1 h2
      obtain ⟨p, us, vs, rfl, rfl, _, tx, vx, rx⟩ := at_seq I rel ra ru h1
      split at h
      · rename_i hc
        cases h
        rw [Bool.or_eq_true] at hc
        rcases hc with hc | hc
        · cases b with
          | tup ys =>
            obtain ⟨p', zs, ws, rfl, rfl, _, ty, vy, ry⟩ := at_tup I rel rb rv
            exact ⟨.list_tuple tx ty hu, .list_tuple tx ty hu, fun _ => .list_tuple tx ty hu⟩
          | _ => cases hc
        · obtain ⟨k1, k2, k3, k4, k5, k6⟩ := seq_flat (l := p) (items := us.toArray) hu rv (flat_at' rb hc) (.inl tx)
          exact ⟨k3, k5, fun _ => k1⟩
      · cases h
    · rename_i xs h1 h2
      obtain ⟨p, us, vs, rfl, rfl, _, tx, vx, rx⟩ := at_seq I rel rb rv h2
      split at h
      · rename_i hc
        cases h
        rw [Bool.or_eq_true] at hc
        rcases hc with hc | hc
        · cases a with
          | tup ys =>
            obtain ⟨p', zs, ws, rfl, rfl, _, ty, vy, ry⟩ := at_tup I rel ra ru
            exact ⟨.tuple_list ty tx hu, .tuple_list ty tx hu, fun _ => .tuple_list ty tx hu⟩
          | _ => cases hc
        · obtain ⟨k1, k2, k3, k4, k5, k6⟩ := seq_flat (l := p) (items := us.toArray) hu ru (flat_at' ra hc) (.inl tx)
          exact ⟨k4, k6, fun _ => k2⟩
      · cases h
    · split at h
      · rename_i hc
        cases h
        rw [Bool.or_eq_true, Bool.and_eq_true, Bool.and_eq_true] at hc
        rcases hc with ⟨h1, h2⟩ | ⟨h1, h2⟩
        · cases a with
          | tup ys =>
            obtain ⟨p', zs, ws, rfl, rfl, _, ty, vy, ry⟩ := at_tup I rel ra ru
            obtain ⟨k1, k2, k3, k4, k5, k6⟩ := seq_flat (l := p') (items := zs.toArray) hu rv (flat_at' rb h2) (.inr ty)
            exact ⟨k3, k5, fun _ => k1⟩
          | _ => cases h1
        · cases b with
          | tup ys =>
            obtain ⟨p', zs, ws, rfl, rfl, _, ty, vy, ry⟩ := at_tup I rel rb rv
            obtain ⟨k1, k2, k3, k4, k5, k6⟩ := seq_flat (l := p') (items := zs.toArray) hu ru (flat_at' ra h2) (.inr ty)
            exact ⟨k4, k6, fun _ => k2⟩
          | _ => cases h1
      · cases h
theorem eqD_at (I : Inv X pins σ H s) (rel : Rel (tb X A) F ρ S H) : ∀ (n : Nat) (A' : Around), A'.units + n < cLine → ∀ (a b : D) (r : Bool) (x y : V) (u v : Value), eqD S n a b = some r → Rep (tb X A) F ρ a x → Rep (tb X A) F ρ b y → RelV x u → RelV y v → SeqAt.EqAt A' s u v r
  | 0, _, _, _, _, _, _, _, _, _, h, _, _, _, _ => by cases h
  | n + 1, A', hu, a, b, r, x, y, u, v, h, ra, rb, ru, rv => by
    cases hs : scEq a b with
    | some q =>
      have h' := h
      unfold eqD at h'
      rw [hs] at h'
      cases h'
      obtain ⟨f1, f2, e, _, _⟩ := scEq_V hs ra rb
      rw [← e]
      exact eqAt_V ru rv f1 f2
    | none =>
      obtain ⟨_, _, k3⟩ := rcD (by omega) I rel (eqD_at I rel n A'.in1 (by show A'.units + 1 + n < cLine; omega)) h hs ra rb ru rv
      by_cases e : u = v
      · subst e
        have exy : x = y := ru.inj rv
        subst exy
        rw [eqD_same I rel (n + 1) a b r x h ra rb]
        exact SeqAt.EqAt.same _
      · exact k3 e
end
/-! ### dicts -/
section
variable {κ α β : Type} [DecidableEq κ]
def lk (kvs : List (κ × α)) (k : κ) : Option α := (kvs.find? fun kv => decide (kv.1 = k)).map (·.2)
def putL (kvs : List (κ × α)) (k : κ) (v : α) : List (κ × α) := if (kvs.any fun kv => decide (kv.1 = k)) = true then kvs.map fun kv => if kv.1 = k then (kv.1, v) else kv else kvs ++ [(k, v)]
def dropL (kvs : List (κ × α)) (k : κ) : List (κ × α) := kvs.filter fun kv => decide (kv.1 ≠ k)
theorem lk_nil {k : κ} : lk ([] : List (κ × α)) k = none := rfl
theorem lk_pos {p : κ × α} {r : List (κ × α)} {k : κ} (e : p.1 = k) : lk (p :: r) k = some p.2 := by simp [lk, List.find?_cons, e]
theorem lk_neg {p : κ × α} {r : List (κ × α)} {k : κ} (e : ¬ p.1 = k) : lk (p :: r) k = lk r k := by simp [lk, List.find?_cons, e]
end
section
variable {T : Tab0} {F : Hp} {ρ : List Addr}
theorem RepK.lk : ∀ {kd : List (Key × D)} {kv : List (Key × V)} (k : Key), RepK T F ρ kd kv → (Dee.lk kd k = none ∧ valV kv k = none) ∨ ∃ d v, Dee.lk kd k = some d ∧ valV kv k = some v ∧ Rep T F ρ d v
  | _, _, _, .nil => .inl ⟨rfl, rfl⟩
  | (k', d) :: _, (_, v) :: _, k, .cons h t => by
    by_cases e : k' = k
    · rw [lk_pos (p := (k', d)) e, valV_pos (p := (k', v)) e]; exact .inr ⟨d, v, rfl, rfl, h⟩
    · rw [lk_neg (p := (k', d)) e, valV_neg (p := (k', v)) e]; exact RepK.lk k t
theorem RepK.len : ∀ {kd : List (Key × D)} {kv : List (Key × V)}, RepK T F ρ kd kv → kd.length = kv.length
  | _, _, .nil => rfl
  | _, _, .cons _ t => by simp [RepK.len t]
theorem RepK.keys : ∀ {kd : List (Key × D)} {kv : List (Key × V)}, RepK T F ρ kd kv → kd.map (·.1) = kv.map (·.1)
  | _, _, .nil => rfl
  | _, _, .cons _ t => by simp [RepK.keys t]
theorem RepK.vals : ∀ {kd : List (Key × D)} {kv : List (Key × V)}, RepK T F ρ kd kv → Reps T F ρ (kd.map (·.2)) (kv.map (·.2))
  | _, _, .nil => .nil
  | _, _, .cons h t => .cons h (RepK.vals t)
theorem RepK.append : ∀ {ds es : List (Key × D)} {vs ws : List (Key × V)}, RepK T F ρ ds vs → RepK T F ρ es ws → RepK T F ρ (ds ++ es) (vs ++ ws)
  | _, _, _, _, .nil, s => s
  | _, _, _, _, .cons r t, s => .cons r (RepK.append t s)
theorem RepK.any (k : Key) : ∀ {kd : List (Key × D)} {kv : List (Key × V)}, RepK T F ρ kd kv → (kd.any fun p => decide (p.1 = k)) = kv.any fun p => decide (p.1 = k)
  | _, _, .nil => rfl
  | _, _, .cons _ t => by simp [RepK.any k t]
theorem RepK.repl {k : Key} {d : D} {v : V} (r : Rep T F ρ d v) : ∀ {kd : List (Key × D)} {kv : List (Key × V)}, RepK T F ρ kd kv → RepK T F ρ (kd.map fun p => if p.1 = k then (p.1, d) else p) (kv.map fun p => if p.1 = k then (p.1, v) else p)
  | _, _, .nil => .nil
  | (k', d') :: _, (_, v') :: _, .cons h t => by
    by_cases e : k' = k
    · simp only [List.map_cons, e, if_true]
      exact .cons r (RepK.repl r t)
    · simp only [List.map_cons, e, if_false]
      exact .cons h (RepK.repl r t)
theorem RepK.put {k : Key} {d : D} {v : V} (r : Rep T F ρ d v) {kd : List (Key × D)} {kv : List (Key × V)} (h : RepK T F ρ kd kv) : RepK T F ρ (putL kd k d) (putK kv k v) := by
  unfold putL putK
  rw [h.any k]
  split
  · exact h.repl r
  · exact h.append (.cons r .nil)
theorem RepK.drop (k : Key) : ∀ {kd : List (Key × D)} {kv : List (Key × V)}, RepK T F ρ kd kv → RepK T F ρ (dropL kd k) (dropK kv k)
  | _, _, .nil => .nil
  | (k', d') :: _, (_, v') :: _, .cons h t => by
    unfold dropL dropK
    rw [List.filter_cons, List.filter_cons]
    split
    · exact .cons h (RepK.drop k t)
    · exact RepK.drop k t
end
def eqKs (f : D → D → Option Bool) (ls : List (Key × D)) : List (Key × D) → Option Bool
  | [] => some true
  | (k, d) :: r => match lk ls k with
    | none => some false
    | some d' => match f d d', eqKs f ls r with
      | some b, some c => some (b && c)
      | _, _ => none
/-- a == b -/
def eqTop (S : Store) (a b : D) : Option Bool := match eqD S 20 a b with
  | some r => some r
  | none => match asK S a, asK S b with
    | some ks, some ls => if ks.length = ls.length then eqKs (eqD S 20) ls ks else some false
    | _, _ => none
def eqP (neg : Bool) : P2 := fun a b S => match eqTop S a b with
  | some r => some (.bl (if neg then !r else r), S)
  | none => none
section
variable {X : Cx} {A : AP}
theorem hits_of {F : Hp} {s : Shared} {ρ : List Addr} {S : Store} {A' : Around} {ls : List (Key × D)} {lv : List (Key × V)} {lu : List (Key × Value)} (n : Nat)
    (ih : ∀ (a b : D) (r : Bool) (x y : V) (u v : Value), eqD S n a b = some r → Rep (tb X A) F ρ a x → Rep (tb X A) F ρ b y → RelV x u → RelV y v → SeqAt.EqAt A' s u v r)
    (rl : RepK (tb X A) F ρ ls lv) (kl : KV lv lu) : ∀ {ks : List (Key × D)} {kv : List (Key × V)} {ku : List (Key × Value)} {r : Bool}, eqKs (eqD S n) ls ks = some r → RepK (tb X A) F ρ ks kv → KV kv ku → PySem.W.KeqHits A' s lu ku r
  | [], _, _, r, h, .nil, .nil => by
    cases h; exact .nil
  | (k, d) :: ks, _ :: _, (k', u) :: _, r, h, .cons (v := v) rd rt, .cons ⟨e1, e2⟩ kt => by
    have e1' : k = k' := e1
    subst e1'
    unfold eqKs at h
    have q := kl.val k
    rcases rl.lk k with ⟨l1, l2⟩ | ⟨d', v', l1, l2, r'⟩
    · rw [l1] at h
      cases h
      rw [l2] at q
      refine .miss ?_
      cases hq : valueAt lu k with
      | none => rfl
      | some z => rw [hq] at q; exact q.elim
    · rw [l1] at h
      dsimp only at h
      rw [l2] at q
      obtain ⟨y, hy, ry⟩ := q.some_of
      split at h
      · rename_i b c h1 h2
        cases h
        exact .hit hy (ih d d' b v v' u y h1 rd r' e2 ry) (hits_of n ih rl kl h2 rt kt)
      · cases h
theorem eq_run (hu : X.A.units + 64 < cLine) (neg : Bool) : OpD X A (compareOp (if neg then .NotEq else .Eq)) (eqP neg) := by
  intro pins s σ H x y v u Q I rx ry h
  obtain ⟨F, ρ, S, a, b, rel, ra, rb, post⟩ := h
  unfold eqP at post
  split at post
  · rename_i r hr
    have q := post.now rel (.bl (if neg then !r else r))
    unfold eqTop at hr
    split at hr
    · rename_i r' hd
      cases hr
      cases hs : scEq a b with
      | some z =>
        have hd' := hd
        unfold eqD at hd'
        rw [hs] at hd'
        cases hd'
        obtain ⟨_, _, _, h4, h5⟩ := scEq_V hs ra rb
        cases neg with
        | false => exact op_eq pins s σ H x y v u Q I rx ry ⟨h4, by rw [h5]; exact q⟩
        | true => exact op_ne pins s σ H x y v u Q I rx ry ⟨h4, by rw [h5]; exact q⟩
      | none =>
        obtain ⟨k1, k2, _⟩ := rcD (A' := X.A) (by omega) I rel (eqD_at I rel 19 X.A.in1 (by show X.A.units + 1 + 19 < cLine; omega)) hd hs ra rb rx ry
        cases neg with
        | false => exact k1 _ _ _ _ ⟨.bl r, H, I, rfl, q⟩
        | true => exact k2 _ _ _ _ ⟨.bl (!r), H, I, rfl, q⟩
    · split at hr
      · rename_i ks ls h1 h2
        obtain ⟨p, kv, rfl, hp, rk⟩ := rel.asK ra h1
        obtain ⟨p', lv, rfl, hp', rl⟩ := rel.asK rb h2
        cases rx; cases ry
        obtain ⟨_, ya, va, kva, da⟩ := dk_rd I.hok hp
        obtain ⟨_, yb, vb, kvb, db⟩ := dk_rd I.hok hp'
        have len1 : va.length = ks.length := by rw [← kva.length, ← rk.len]
        have len2 : vb.length = ls.length := by rw [← kvb.length, ← rl.len]
        have ex : ∃ z : Bool, (va.length = vb.length → PySem.W.KeqHits X.A.in1 s vb va z) ∧ (va.length == vb.length && z) = r := by
          by_cases hl : ks.length = ls.length
          · rw [if_pos hl] at hr
            exact ⟨r, fun _ => hits_of (S := S) 20 (eqD_at I rel 20 X.A.in1 (by show X.A.units + 1 + 20 < cLine; omega)) rl kvb hr rk kva, by rw [len1, len2, hl]; simp⟩
          · rw [if_neg hl] at hr
            cases hr
            exact ⟨true, fun e => absurd (by rw [← len1, ← len2, e]) hl, by rw [len1, len2]; simpa using hl⟩
        obtain ⟨z, hz, er⟩ := ex
        cases neg with
        | false => exact PySem.W.keq_eq (knd := mixKind X.prog X.w) (r := z) ya yb da db (by omega) hz ⟨.bl r, H, I, by rw [er]; rfl, q⟩
        | true => exact PySem.W.keq_ne (knd := mixKind X.prog X.w) (r := z) ya yb da db (by omega) hz ⟨.bl (!r), H, I, by rw [er]; rfl, q⟩
      · cases hr
  · exact post.elim
end
end Dee

set_option maxRecDepth 100000
set_option maxHeartbeats 4000000
namespace Dee
open PySem L2
/-! ### primitives: numbers -/
def subD : P2
  | .int a, .int b, S => some (.int (a - b), S)
  | _, _, _ => none
def fdivD : P2
  | .int a, .int b, S => if 0 < b ∧ b < 1073741824 then some (.int (a / b), S) else none
  | _, _, _ => none
def modD : P2
  | .int a, .int b, S => if 0 < b then some (.int (a % b), S) else none
  | _, _, _ => none
def powD : P2
  | .int a, .int b, S => if 0 ≤ b ∧ b ≤ 1000000 ∧ a.natAbs < 2 ^ 64 then some (.int (a ^ b.toNat), S) else none
  | _, _, _ => none
def mulD : P2
  | .int a, .int b, S => if (-18446744073709551616 < a ∧ a < 18446744073709551616) ∨ (-18446744073709551616 < b ∧ b < 18446744073709551616) then some (.int (a * b), S) else none
  | .str a, .int b, S => if b < 1000000 ∧ -1000000 < b ∧ a.length * b.toNat ≤ 1000000 then some (.str ⟨(List.replicate b.toNat a.cps.toList).flatten.toArray⟩, S) else none
  | .tup a, .int b, S => if a ≠ [] ∧ 2 ≤ b ∧ b ≤ 1000 ∧ a.length ≤ 1000 then some (.tup (List.replicate b.toNat a).flatten, S) else none
  | .lst a, .int b, S => if 0 ≤ b ∧ b < 1000 ∧ a.length * b.toNat ≤ 1000000 then some (.lst (List.replicate b.toNat a).flatten, S) else none
  | _, _, _ => none
def negD : P1
  | .int a, S => some (.int (-a), S)
  | _, _ => none
def cmpD (p : Int → Int → Bool) : P2
  | .int a, .int b, S => some (.bl (p a b), S)
  | _, _, _ => none
def isND (neg : Bool) : P2
  | a, .non, S => match a with
    | .non => some (.bl (!neg), S)
    | _ => some (.bl neg, S)
  | _, _, _ => none
theorem Reps.rep {T : Tab0} {F : Hp} {ρ : List Addr} {ds : List D} {vs : List V} (h : Reps T F ρ ds vs) : ∀ n : Nat, Reps T F ρ (List.replicate n ds).flatten (List.replicate n vs).flatten
  | 0 => .nil
  | n + 1 => by rw [List.replicate_succ, List.replicate_succ, List.flatten_cons, List.flatten_cons]; exact h.append (Reps.rep h n)
theorem fold_rep (l : List Nat) : ∀ (k : Nat) (acc : List Nat), (List.replicate k l.toArray).foldl (· ++ ·) acc.toArray = (acc ++ (List.replicate k l).flatten).toArray
  | 0, acc => by simp
  | k + 1, acc => by
    rw [List.replicate_succ, List.foldl_cons, List.append_toArray, fold_rep l k (acc ++ l), List.replicate_succ, List.flatten_cons, List.append_assoc]
section
variable {X : Cx} {A : AP}
theorem od_sub : OpD X A (binaryOp .Sub) subD := by
  intro pins s σ H x y v u Q I rx ry h
  obtain ⟨F, ρ, S, d1, d2, rel, r1, r2, post⟩ := h
  unfold subD at post
  split at post
  · cases r1; cases r2; exact op_sub pins s σ H _ _ v u Q I rx ry ⟨_, _, rfl, rfl, post.now rel (.int _)⟩
  · exact post.elim
theorem od_fdiv : OpD X A (binaryOp .FloorDiv) fdivD := by
  intro pins s σ H x y v u Q I rx ry h
  obtain ⟨F, ρ, S, d1, d2, rel, r1, r2, post⟩ := h
  unfold fdivD at post
  split at post
  · split at post
    · rename_i hc
      cases r1; cases r2; exact op_fdiv pins s σ H _ _ v u Q I rx ry ⟨_, _, rfl, rfl, hc, post.now rel (.int _)⟩
    · exact post.elim
  · exact post.elim
theorem od_mod : OpD X A (binaryOp .Mod) modD := by
  intro pins s σ H x y v u Q I rx ry h
  obtain ⟨F, ρ, S, d1, d2, rel, r1, r2, post⟩ := h
  unfold modD at post
  split at post
  · split at post
    · rename_i hc
      cases r1; cases r2; exact op_mod pins s σ H _ _ v u Q I rx ry ⟨_, _, rfl, rfl, hc, post.now rel (.int _)⟩
    · exact post.elim
  · exact post.elim
theorem od_pow : OpD X A (binaryOp .Pow) powD := by
  intro pins s σ H x y v u Q I rx ry h
  obtain ⟨F, ρ, S, d1, d2, rel, r1, r2, post⟩ := h
  unfold powD at post
  split at post
  · split at post
    · rename_i hc
      cases r1; cases r2; exact op_pow pins s σ H _ _ v u Q I rx ry ⟨_, _, rfl, rfl, hc, post.now rel (.int _)⟩
    · exact post.elim
  · exact post.elim
theorem od_mul : OpD X A (binaryOp .Mult) mulD := by
  intro pins s σ H x y v u Q I rx ry h
  obtain ⟨F, ρ, S, d1, d2, rel, r1, r2, post⟩ := h
  unfold mulD at post
  split at post
  · split at post
    · rename_i hc
      cases r1; cases r2; exact op_mul pins s σ H _ _ v u Q I rx ry ⟨_, _, rfl, rfl, hc, post.now rel (.int _)⟩
    · exact post.elim
  · split at post
    · rename_i _ _ _ a b hc
      cases r1; cases r2
      obtain ⟨t, rfl⟩ := rx
      obtain ⟨t', rfl⟩ := ry
      have fin : ∀ (st : Shared) (z : Value), (∃ k, st = { s with toks := k }) → (∃ tk, z = .str ⟨(List.replicate b.toNat a.cps.toList).flatten.toArray⟩ tk) → EP X pins σ Q z st := by
        rintro st z ⟨k, rfl⟩ ⟨tk, rfl⟩
        exact ⟨.str _, H, I.tok k, ⟨tk, rfl⟩, post.now rel (.str _)⟩
      have ha : a = ⟨a.cps.toList.toArray⟩ := by obtain ⟨⟨l⟩⟩ := a; rfl
      refine PySem.P.mul_str (by simp only [Bool.or_eq_false_iff, decide_eq_false_iff_not]; omega) (fun h1 h2 => ?_) (fun h1 h2 => ?_) ?_
      · have : a.length * b.toNat ≤ 1000000 := hc.2.2
        have hb : 0 < b := by omega
        intro hh
        have e1 : ((2 : Int) ^ 63 - 1) / b < a.length := hh
        have e2 := (Int.ediv_lt_iff_lt_mul hb).mp e1
        have e3 : ((a.length * b.toNat : Nat) : Int) ≤ ((1000000 : Nat) : Int) := Int.ofNat_le.mpr this
        have e4 : (b.toNat : Int) = b := by omega
        rw [Int.natCast_mul, e4] at e3
        omega
      · unfold PySem.Builtin.Str.tooLong
        rw [sizeLine_eq]
        simp only [decide_eq_false_iff_not]; omega
      · split
        · rename_i hn
          have : b.toNat = 0 := by omega
          exact ⟨by rw [sizeLine_eq]; decide, fin _ _ ⟨_, rfl⟩ ⟨_, by rw [this]; rfl⟩⟩
        · split
          · rename_i hn hz
            rw [Bool.or_eq_true] at hz
            refine fin _ _ ⟨_, rfl⟩ ⟨t, ?_⟩
            congr 1
            rcases hz with hz | hz
            · have e : b = 1 := by simpa using hz
              subst e
              obtain ⟨⟨l⟩⟩ := a
              simp
            · have e : a.length = 0 := by simpa using hz
              obtain ⟨⟨l⟩⟩ := a
              have : l = [] := by simpa [Str.length] using e
              subst this
              simp
          · obtain ⟨⟨l⟩⟩ := a
            have ef : (List.replicate b.toNat l.toArray).foldl (· ++ ·) #[] = (List.replicate b.toNat l).flatten.toArray := by
              have := fold_rep l b.toNat []
              simpa using this
            refine ⟨?_, fin _ _ ⟨_, rfl⟩ ⟨s.toks, ?_⟩⟩
            · show ((List.replicate b.toNat l.toArray).foldl (· ++ ·) #[]).size ≤ sizeLine
              rw [ef, sizeLine_eq, List.size_toArray, List.length_flatten, List.map_replicate, List.sum_replicate_nat]
              have : l.length * b.toNat ≤ 1000000 := hc.2.2
              rw [Nat.mul_comm]; omega
            · exact congrArg (fun z => Value.str ⟨z⟩ s.toks) ef
    · exact post.elim
  · split at post
    · rename_i _ _ _ a b hc
      cases r2
      obtain ⟨p, xs, rfl, h1, q1⟩ := sqT_sub rel r1
      refine op_repT pins s σ H _ _ v u Q I rx ry ⟨p, b, xs, rfl, rfl, h1, fun e => ?_, hc.2.1, hc.2.2.1, by rw [← q1.len]; exact hc.2.2.2, post.tup rel (q1.rep _)⟩
      subst e; cases q1; exact hc.1 rfl
    · exact post.elim
  · split at post
    · rename_i _ _ _ a b hc
      cases r2
      cases r1 with
      | lst h0 q1 =>
        refine op_rep pins s σ H _ _ v u Q I rx ry ⟨_, b, _, rfl, rfl, rel.sub.ex h0 (fun _ z => by cases z), by omega, by omega, ?_, post.lst rel (q1.rep _)⟩
        rw [← q1.len, sizeLine_eq]; omega
    · exact post.elim
  · exact post.elim
theorem ou_neg : UnR X (unaryOp .USub) (rU1 (tb X A) negD) := by
  intro pins s σ H x v Q I rx h
  obtain ⟨F, ρ, S, d, rel, r, post⟩ := h
  unfold negD at post
  split at post
  · cases r; exact un_neg pins s σ H _ v Q I rx ⟨_, rfl, post.now rel (.int _)⟩
  · exact post.elim
theorem od_cmp {op : CmpOp} {p : Int → Int → Bool} (ho : OpR X (compareOp op) (rI0 fun i j => .bl (p i j))) : OpD X A (compareOp op) (cmpD p) := by
  intro pins s σ H x y v u Q I rx ry h
  obtain ⟨F, ρ, S, d1, d2, rel, r1, r2, post⟩ := h
  unfold cmpD at post
  split at post
  · cases r1; cases r2; exact ho pins s σ H _ _ v u Q I rx ry ⟨_, _, rfl, rfl, post.now rel (.bl _)⟩
  · exact post.elim
abbrev ltD : P2 := cmpD fun a b => decide (a < b)
abbrev leD : P2 := cmpD fun a b => decide (a ≤ b)
abbrev gtD : P2 := cmpD fun a b => decide (b < a)
abbrev geD : P2 := cmpD fun a b => decide (b ≤ a)
theorem od_lt : OpD X A (compareOp .Lt) ltD := od_cmp op_lt
theorem od_le : OpD X A (compareOp .LtE) leD := od_cmp op_le
theorem od_gt : OpD X A (compareOp .Gt) gtD := od_cmp op_gt
theorem od_ge : OpD X A (compareOp .GtE) geD := od_cmp op_ge
abbrev eqO : P2 := eqP false
abbrev neO : P2 := eqP true
theorem od_eq (hu : X.A.units + 64 < cLine) : OpD X A (compareOp .Eq) eqO := eq_run hu false
theorem od_ne (hu : X.A.units + 64 < cLine) : OpD X A (compareOp .NotEq) neO := eq_run hu true
theorem rep_non {T : Tab0} {F : Hp} {ρ : List Addr} {d : D} {v : V} (r : Rep T F ρ d v) : (d = .non ∧ v = .non) ∨ (d ≠ .non ∧ v ≠ .non) := by
  cases r <;> first | exact .inl ⟨rfl, rfl⟩ | exact .inr ⟨by simp, by simp⟩
theorem od_is : OpD X A (compareOp .Is) (isND false) := by
  intro pins s σ H x y v u Q I rx ry h
  obtain ⟨F, ρ, S, d1, d2, rel, r1, r2, post⟩ := h
  unfold isND at post
  split at post
  · cases r2
    refine op_isN pins s σ H _ _ v u Q I rx ry ⟨rfl, ?_⟩
    rcases rep_non r1 with ⟨rfl, rfl⟩ | ⟨h1, h2⟩
    · exact post.now rel (.bl _)
    · have e : (decide (x = V.non)) = false := decide_eq_false h2
      rw [e]
      split at post
      · exact absurd rfl h1
      · exact post.now rel (.bl _)
  · exact post.elim
theorem od_isnot : OpD X A (compareOp .IsNot) (isND true) := by
  intro pins s σ H x y v u Q I rx ry h
  obtain ⟨F, ρ, S, d1, d2, rel, r1, r2, post⟩ := h
  unfold isND at post
  split at post
  · cases r2
    refine op_notN pins s σ H _ _ v u Q I rx ry ⟨rfl, ?_⟩
    rcases rep_non r1 with ⟨rfl, rfl⟩ | ⟨h1, h2⟩
    · exact post.now rel (.bl _)
    · have e : (decide (x = V.non)) = false := decide_eq_false h2
      rw [e]
      split at post
      · exact absurd rfl h1
      · exact post.now rel (.bl _)
  · exact post.elim
end
/-! ### in -/
def keyD : D → Option Key
  | .int i => some (.inl i)
  | .str s => some (.inr s)
  | _ => none
def anyEq (S : Store) (d : D) : List D → Option Bool
  | [] => some false
  | x :: r => match eqD S 20 x d, anyEq S d r with
    | some b, some c => some (b || c)
    | _, _ => none
def inD (neg : Bool) : P2 := fun a b S => match a, b with
  | .str x, .str z => if x.cps.size = 1 then some (.bl (neg != decide (x.cps.getD 0 0 ∈ z.cps.toList)), S) else none
  | a, .tup ds => (anyEq S a ds).map fun r => (.bl (neg != r), S)
  | a, b => match asL S b with
    | some ds => (anyEq S a ds).map fun r => (.bl (neg != r), S)
    | none => match asK S b, keyD a with
      | some kvs, some k => some (.bl (neg != (lk kvs k).isSome), S)
      | _, _ => none
theorem anyEq_some {S : Store} {d : D} : ∀ {ds : List D} {r : Bool}, anyEq S d ds = some r → ∃ e : Nat → Bool, r = (List.range ds.length).any e ∧ ∀ j x, ds[j]? = some x → eqD S 20 x d = some (e j)
  | [], r, h => ⟨fun _ => true, by simp only [anyEq] at h; cases h; simp, fun j x h => by simp at h⟩
  | x :: xs, r, h => by
    unfold anyEq at h
    split at h
    · rename_i b c h1 h2
      cases h
      obtain ⟨e, he, hj⟩ := anyEq_some h2
      refine ⟨fun j => match j with
        | 0 => b
        | j + 1 => e j, ?_, fun j x' e1 => ?_⟩
      · rw [List.length_cons, List.range_succ_eq_map, List.any_cons, List.any_map, he]; rfl
      · cases j with
        | zero => simp at e1; subst e1; exact h1
        | succ j => exact hj j x' (by simpa using e1)
    · cases h
theorem key_rep {T : Tab0} {F : Hp} {ρ : List Addr} {d : D} {v : V} {k : Key} (r : Rep T F ρ d v) (h : keyD d = some k) : v = kV k := by
  cases r <;> first | (cases h; rfl) | cases h
theorem one_sign {x : Str} (h : x.cps.size = 1) : x = ⟨#[x.cps.getD 0 0]⟩ := by
  obtain ⟨⟨l⟩⟩ := x
  match l, h with
  | [c], _ => rfl
end Dee

set_option maxRecDepth 100000
set_option maxHeartbeats 4000000
namespace Dee
open PySem L2
section
variable {X : Cx} {A : AP} {pins : List (Addr × Obj)} {σ : St} {H F : Hp} {s : Shared} {ρ : List Addr} {S : Store}
open Classical in
theorem any_at {A' : Around} {ds : List D} {vs : List V} {us : List Value} {d : D} {x : V} {u : Value} {r : Bool} (I : Inv X pins σ H s) (rel : Rel (tb X A) F ρ S H) (hu : A'.units + 20 < cLine) (rs : Reps (tb X A) F ρ ds vs) (vu : Vals vs us) (rd : Rep (tb X A) F ρ d x) (ru : RelV x u) (h : anyEq S d ds = some r) :
    ∃ e : Value → Bool, (∀ y ∈ us, SeqAt.EqAt A' s y u (e y)) ∧ us.any e = r := by
  obtain ⟨b, hb, hj⟩ := anyEq_some h
  have len : ds.length = us.length := by rw [rs.len, vu.length]
  have at_ : ∀ j y, us[j]? = some y → SeqAt.EqAt A' s y u (b j) := fun j y hy => by
    have hl : j < us.length := (List.getElem?_eq_some_iff.mp hy).1
    have hl' : j < ds.length := by omega
    obtain ⟨v, hv, q1⟩ := rs.get (List.getElem?_eq_getElem hl')
    obtain ⟨z, hz, p1⟩ := vu.get hv
    rw [hy] at hz; cases hz
    exact eqD_at I rel 20 A' hu _ _ _ _ _ _ _ (hj j _ (List.getElem?_eq_getElem hl')) q1 rd p1 ru
  refine ⟨fun y => decide (∃ j, us[j]? = some y ∧ b j = true), fun y hy => ?_, ?_⟩
  · show SeqAt.EqAt A' s y u (decide (∃ j, us[j]? = some y ∧ b j = true))
    obtain ⟨j, hl, e⟩ := List.getElem_of_mem hy
    have hy' : us[j]? = some y := by rw [List.getElem?_eq_getElem hl, e]
    by_cases hc : ∃ j, us[j]? = some y ∧ b j = true
    · have q : (decide (∃ j, us[j]? = some y ∧ b j = true)) = true := decide_eq_true hc
      rw [q]
      obtain ⟨k, h1, h2⟩ := hc
      rw [← h2]; exact at_ k y h1
    · have q : (decide (∃ j, us[j]? = some y ∧ b j = true)) = false := decide_eq_false hc
      rw [q]
      have : b j = false := by
        cases hbj : b j with
        | false => rfl
        | true => exact absurd ⟨j, hy', hbj⟩ hc
      rw [← this]; exact at_ j y hy'
  · rw [hb, Bool.eq_iff_iff, List.any_eq_true, List.any_eq_true]
    constructor
    · rintro ⟨y, hy, hc⟩
      obtain ⟨j, h1, h2⟩ := of_decide_eq_true hc
      exact ⟨j, List.mem_range.mpr (by have := (List.getElem?_eq_some_iff.mp h1).1; omega), h2⟩
    · rintro ⟨j, hm, h2⟩
      have hl : j < us.length := by have := List.mem_range.mp hm; omega
      exact ⟨us[j], List.getElem_mem hl, decide_eq_true ⟨j, List.getElem?_eq_getElem hl, h2⟩⟩
theorem od_in' (hu : X.A.units + 64 < cLine) (neg : Bool) : OpD X A (compareOp (if neg then .NotIn else .In)) (inD neg) := by
  intro pins s σ H x y v u Q I rx ry h
  obtain ⟨F, ρ, S, d1, d2, rel, r1, r2, post⟩ := h
  unfold inD at post
  split at post
  · rename_i x z
    cases r1; cases r2
    split at post
    · rename_i hx
      rw [one_sign hx] at rx
      cases neg with
      | false => exact op_in_sign pins s σ H _ _ v u Q I rx ry ⟨_, _, rfl, rfl, by simpa using post.now rel (.bl _)⟩
      | true => exact op_notIn_sign pins s σ H _ _ v u Q I rx ry ⟨_, _, rfl, rfl, by simpa using post.now rel (.bl _)⟩
    · exact post.elim
  · rename_i ds
    cases ha : anyEq S d1 ds with
    | none => rw [ha] at post; exact post.elim
    | some r =>
      rw [ha] at post
      have q := post.now rel (.bl _)
      obtain ⟨p, us, vs, rfl, rfl, _, tx, vx, rs⟩ := at_tup I rel r2 ry
      obtain ⟨e, h1, h2⟩ := any_at (A' := X.A.in1) I rel (by show X.A.units + 1 + 20 < cLine; omega) rs vx r1 rx ha
      have e2 : us.toArray.any e = r := by rw [← h2]; simp
      cases neg with
      | false => exact SeqAt.in_tupleAt e tx (fun y hy => h1 y (by simpa using hy)) ⟨.bl _, H, I, rfl, by rw [e2]; simpa using q⟩
      | true => exact SeqAt.notIn_tupleAt e tx (fun y hy => h1 y (by simpa using hy)) ⟨.bl _, H, I, rfl, by rw [e2]; simpa using q⟩
  · split at post
    · rename_i ds hd
      cases ha : anyEq S d1 ds with
      | none => rw [ha] at post; exact post.elim
      | some r =>
        rw [ha] at post
        have q := post.now rel (.bl _)
        obtain ⟨p, us, vs, rfl, rfl, _, tx, vx, rs⟩ := at_seq I rel r2 ry hd
        obtain ⟨e, h1, h2⟩ := any_at (A' := X.A.in1) I rel (by show X.A.units + 1 + 20 < cLine; omega) rs vx r1 rx ha
        have e2 : us.toArray.any e = r := by rw [← h2]; simp
        cases neg with
        | false => exact SeqAt.in_listAt e tx (fun y hy => h1 y (by simpa using hy)) ⟨.bl _, H, I, rfl, by rw [e2]; simpa using q⟩
        | true => exact SeqAt.notIn_listAt e tx (fun y hy => h1 y (by simpa using hy)) ⟨.bl _, H, I, rfl, by rw [e2]; simpa using q⟩
    · split at post
      · rename_i kvs k hk hkey
        have q := post.now rel (.bl _)
        obtain ⟨p, kv, rfl, hp, rk⟩ := rel.asK r2 hk
        have ek := key_rep r1 hkey
        subst ek
        cases ry
        have g : DGet H p (kV k) (valV kv k) := .inl ⟨kv, k, hp, rfl, rfl⟩
        have e : (valV kv k).isSome = (lk kvs k).isSome := by
          rcases rk.lk k with ⟨l1, l2⟩ | ⟨_, _, l1, l2, _⟩ <;> rw [l1, l2] <;> rfl
        cases neg with
        | false => exact d_in (by omega) I g rx fun s' I' => ⟨.bl _, H, I', rfl, by rw [e]; simpa using q⟩
        | true => exact d_notIn (by omega) I g rx fun s' I' => ⟨.bl _, H, I', rfl, by rw [e]; simpa using q⟩
      · exact post.elim
theorem od_in (hu : X.A.units + 64 < cLine) : OpD X A (compareOp .In) (inD false) := od_in' hu false
theorem od_notin (hu : X.A.units + 64 < cLine) : OpD X A (compareOp .NotIn) (inD true) := od_in' hu true
end
end Dee

set_option maxRecDepth 100000
set_option maxHeartbeats 4000000
namespace Dee
open PySem PySem.Spec L2 PyProof.Rows
/-! ### built-ins by their names -/
def asQ (S : Store) (d : D) : Option (List D) := match d with
  | .tup ds => some ds
  | d => asL S d
theorem Rel.asQ {T : Tab} {F H : Hp} {ρ : List Addr} {S : Store} {d : D} {v : V} {ds : List D} (rel : Rel T F ρ S H) (r : Rep T F ρ d v) (h : asQ S d = some ds) : ∃ p vs, v = .ref p ∧ (SqL T.K H p vs ∨ SqT T.K H p vs) ∧ Reps T F ρ ds vs := by
  unfold Dee.asQ at h
  split at h
  · cases h
    obtain ⟨p, vs, e, s, q⟩ := sqT_sub rel r
    exact ⟨p, vs, e, .inr s, q⟩
  · obtain ⟨p, vs, e, s, q⟩ := rel.asL r h
    exact ⟨p, vs, e, .inl s, q⟩
def lenD : PL
  | [.str s], S => if s.length ≤ 1000000 then some (.int s.length, S) else none
  | [d], S => match asQ S d with
    | some ds => some (.int ds.length, S)
    | none => match asK S d with
      | some kvs => some (.int kvs.length, S)
      | none => none
  | _, _ => none
def absD : PL
  | [.int i], S => some (.int (if i < 0 then -i else i), S)
  | _, _ => none
def maxD : PL
  | [.int i, .int j], S => some (.int (if j > i then j else i), S)
  | _, _ => none
def minD : PL
  | [.int i, .int j], S => some (.int (if j < i then j else i), S)
  | _, _ => none
def intD : PL
  | [.int i], S => some (.int i, S)
  | [.bl k], S => some (.int (if k then 1 else 0), S)
  | _, _ => none
def strD : PL
  | [.int i], S => if i.natAbs.log2 < 1920 then some (.str (toString i), S) else none
  | _, _ => none
def ordD : PL
  | [.str x], S => if x.length = 1 then some (.int (x.cps.getD 0 0 : Nat), S) else none
  | _, _ => none
def asBs : List D → Option (List Bool)
  | [] => some []
  | .bl b :: r => (asBs r).map (b :: ·)
  | _ => none
def asIs : List D → Option (List Int)
  | [] => some []
  | .int b :: r => (asIs r).map (b :: ·)
  | _ => none
def asSs : List D → Option (List Str)
  | [] => some []
  | .str b :: r => (asSs r).map (b :: ·)
  | _ => none
def allD : PL
  | [d], S => match (asL S d).bind asBs with
    | some bs => some (.bl (bs.all id), S)
    | none => none
  | _, _ => none
def anyD : PL
  | [d], S => match (asL S d).bind asBs with
    | some bs => some (.bl (bs.any id), S)
    | none => none
  | _, _ => none
def sumD : PL
  | [d], S => match (asL S d).bind asIs with
    | some bs => some (.int bs.sum, S)
    | none => none
  | _, _ => none
def kD : Key → D
  | .inl i => .int i
  | .inr s => .str s
def listD (m : Bool) : PL
  | [.keys d], S => match asK S d with
    | some kvs => outL m (kvs.map fun kv => kD kv.1) S
    | none => none
  | [d], S => match asQ S d with
    | some ds => outL m ds S
    | none => none
  | _, _ => none
def tupleD : PL
  | [d], S => match asQ S d with
    | some ds => some (.tup ds, S)
    | none => none
  | _, _ => none
def leS (a b : Str) : Bool := !ltCps b.cps.toList a.cps.toList
def insS (x : Str) : List Str → List Str
  | [] => [x]
  | y :: r => if leS x y then x :: y :: r else y :: insS x r
def sortS : List Str → List Str
  | [] => []
  | x :: r => insS x (sortS r)
def insI (x : Int) : List Int → List Int
  | [] => [x]
  | y :: r => if x ≤ y then x :: y :: r else y :: insI x r
def sortI : List Int → List Int
  | [] => []
  | x :: r => insI x (sortI r)
theorem leS_iff {a b : Str} : leS a b = true ↔ ¬ b.cps.toList < a.cps.toList := by
  unfold leS; rw [ltCps_eq]; simp
theorem leS_total (a b : Str) : leS a b = true ∨ leS b a = true := by
  rw [leS_iff, leS_iff]
  by_cases h : b.cps.toList < a.cps.toList
  · right; exact fun k => List.lt_asymm h k
  · left; exact h
theorem leS_trans {a b c : Str} (h1 : leS a b = true) (h2 : leS b c = true) : leS a c = true := by
  rw [leS_iff] at *
  have k1 : a.cps.toList ≤ b.cps.toList := List.not_lt.mp h1
  have k2 : b.cps.toList ≤ c.cps.toList := List.not_lt.mp h2
  exact List.not_lt.mpr (List.le_trans k1 k2)
theorem str_ext {a b : Str} (h : a.cps.toList = b.cps.toList) : a = b := by
  obtain ⟨⟨l⟩⟩ := a; obtain ⟨⟨m⟩⟩ := b
  exact congrArg (fun z => (⟨⟨z⟩⟩ : Str)) h
theorem leS_anti {a b : Str} (h1 : leS a b = true) (h2 : leS b a = true) : a = b := by
  rw [leS_iff] at *
  exact str_ext (List.le_antisymm (List.not_lt.mp h1) (List.not_lt.mp h2))
theorem insS_perm (x : Str) : ∀ l, (insS x l).Perm (x :: l)
  | [] => .refl _
  | y :: r => by
    unfold insS
    split
    · exact .refl _
    · exact (List.Perm.cons y (insS_perm x r)).trans (.swap x y r)
theorem sortS_perm : ∀ l, (sortS l).Perm l
  | [] => .refl _
  | x :: r => (insS_perm x _).trans ((sortS_perm r).cons x)
theorem insS_pw (x : Str) : ∀ l, l.Pairwise (fun a b => leS a b = true) → (insS x l).Pairwise (fun a b => leS a b = true)
  | [], _ => by simp [insS]
  | y :: r, h => by
    unfold insS
    rw [List.pairwise_cons] at h
    split
    · rename_i hxy
      refine List.pairwise_cons.mpr ⟨fun z hz => ?_, List.pairwise_cons.mpr h⟩
      rcases List.mem_cons.mp hz with rfl | hz
      · exact hxy
      · exact leS_trans hxy (h.1 z hz)
    · rename_i hxy
      refine List.pairwise_cons.mpr ⟨fun z hz => ?_, insS_pw x r h.2⟩
      rcases List.mem_cons.mp ((insS_perm x r).mem_iff.mp hz) with rfl | hz
      · exact (leS_total y z).resolve_right hxy
      · exact h.1 z hz
theorem sortS_pw : ∀ l, (sortS l).Pairwise (fun a b => leS a b = true)
  | [] => .nil
  | x :: r => insS_pw x _ (sortS_pw r)
theorem rising_pw : ∀ (p : Str) (l : List Str), risingS p l = true → (p :: l).Pairwise (fun a b => leS a b = true)
  | p, [], _ => by simp
  | p, x :: r, h => by
    have h' : (!ltCps x.cps.toList p.cps.toList && risingS x r) = true := h
    rw [Bool.and_eq_true] at h'
    have ih := rising_pw x r h'.2
    refine List.pairwise_cons.mpr ⟨fun z hz => ?_, ih⟩
    rcases List.mem_cons.mp hz with rfl | hz
    · exact h'.1
    · exact leS_trans (show leS p x = true from h'.1) ((List.pairwise_cons.mp ih).1 z hz)
theorem sorted_pw : ∀ {l : List Str}, sortedS l = true → l.Pairwise (fun a b => leS a b = true)
  | [], _ => .nil
  | x :: r, h => rising_pw x r h
theorem sortS_eq {ys ks : List Str} (p : ys.Perm ks) (s : sortedS ys = true) : ys = sortS ks :=
  List.Perm.eq_of_pairwise (le := fun a b => leS a b = true) (fun a b _ _ h1 h2 => leS_anti h1 h2) (sorted_pw s) (sortS_pw ks) (p.trans (sortS_perm ks).symm)
theorem insI_perm (x : Int) : ∀ l, (insI x l).Perm (x :: l)
  | [] => .refl _
  | y :: r => by
    unfold insI
    split
    · exact .refl _
    · exact (List.Perm.cons y (insI_perm x r)).trans (.swap x y r)
theorem sortI_perm : ∀ l, (sortI l).Perm l
  | [] => .refl _
  | x :: r => (insI_perm x _).trans ((sortI_perm r).cons x)
theorem insI_pw (x : Int) : ∀ l, l.Pairwise (· ≤ ·) → (insI x l).Pairwise (· ≤ ·)
  | [], _ => by simp [insI]
  | y :: r, h => by
    unfold insI
    rw [List.pairwise_cons] at h
    split
    · rename_i hxy
      refine List.pairwise_cons.mpr ⟨fun z hz => ?_, List.pairwise_cons.mpr h⟩
      rcases List.mem_cons.mp hz with rfl | hz
      · exact hxy
      · exact Int.le_trans hxy (h.1 z hz)
    · rename_i hxy
      refine List.pairwise_cons.mpr ⟨fun z hz => ?_, insI_pw x r h.2⟩
      rcases List.mem_cons.mp ((insI_perm x r).mem_iff.mp hz) with rfl | hz
      · omega
      · exact h.1 z hz
theorem sortI_pw : ∀ l, (sortI l).Pairwise (· ≤ ·)
  | [] => .nil
  | x :: r => insI_pw x _ (sortI_pw r)
theorem sortI_eq {ys ks : List Int} (p : ys.Perm ks) (s : ys.Pairwise (· ≤ ·)) : ys = sortI ks :=
  List.Perm.eq_of_pairwise (le := (· ≤ ·)) (fun a b _ _ h1 h2 => Int.le_antisymm h1 h2) s (sortI_pw ks) (p.trans (sortI_perm ks).symm)
def asKS : List (Key × D) → Option (List Str)
  | [] => some []
  | (.inr s, _) :: r => (asKS r).map (s :: ·)
  | _ => none
def asKI : List (Key × D) → Option (List Int)
  | [] => some []
  | (.inl s, _) :: r => (asKI r).map (s :: ·)
  | _ => none
def sortedD (m : Bool) : PL
  | [.keys d], S => match asK S d with
    | some kvs => match asKS kvs with
      | some ks => if ks.length < 64 then outL m ((sortS ks).map D.str) S else none
      | none => match asKI kvs with
        | some ks => if ks.length < 64 then outL m ((sortI ks).map D.int) S else none
        | none => none
    | none => none
  | [d], S => match asL S d with
    | some ds => match asSs ds with
      | some ks => if ks.length < 64 then outL m ((sortS ks).map D.str) S else none
      | none => match asIs ds with
        | some ks => if ks.length < 64 then outL m ((sortI ks).map D.int) S else none
        | none => none
    | none => none
  | _, _ => none
section
variable {T : Tab0} {F : Hp} {ρ : List Addr}
theorem reps_bs : ∀ {ds : List D} {vs : List V} {bs : List Bool}, Reps T F ρ ds vs → asBs ds = some bs → vs = bs.map V.bl
  | _, _, _, .nil, h => by cases h; rfl
  | _, _, _, .cons r t, h => by
    cases r <;> first | cases h | skip
    rename_i b
    simp only [asBs, Option.map_eq_some_iff] at h
    obtain ⟨l, h1, rfl⟩ := h
    rw [reps_bs t h1]; rfl
theorem reps_is : ∀ {ds : List D} {vs : List V} {bs : List Int}, Reps T F ρ ds vs → asIs ds = some bs → vs = bs.map V.int
  | _, _, _, .nil, h => by cases h; rfl
  | _, _, _, .cons r t, h => by
    cases r <;> first | cases h | skip
    rename_i b
    simp only [asIs, Option.map_eq_some_iff] at h
    obtain ⟨l, h1, rfl⟩ := h
    rw [reps_is t h1]; rfl
theorem reps_ss : ∀ {ds : List D} {vs : List V} {bs : List Str}, Reps T F ρ ds vs → asSs ds = some bs → vs = bs.map V.str
  | _, _, _, .nil, h => by cases h; rfl
  | _, _, _, .cons r t, h => by
    cases r <;> first | cases h | skip
    rename_i b
    simp only [asSs, Option.map_eq_some_iff] at h
    obtain ⟨l, h1, rfl⟩ := h
    rw [reps_ss t h1]; rfl
theorem rep_strs : ∀ (ks : List Str), Reps T F ρ (ks.map D.str) (ks.map V.str)
  | [] => .nil
  | x :: r => .cons (.str x) (rep_strs r)
theorem rep_ints : ∀ (ks : List Int), Reps T F ρ (ks.map D.int) (ks.map V.int)
  | [] => .nil
  | x :: r => .cons (.int x) (rep_ints r)
theorem rep_key (k : Key) : Rep T F ρ (kD k) (kV k) := by
  cases k with
  | inl i => exact .int i
  | inr i => exact .str i
theorem rep_keys : ∀ {ks : List (Key × D)} {kv : List (Key × V)}, RepK T F ρ ks kv → Reps T F ρ (ks.map fun p => kD p.1) (kv.map fun p => kV p.1)
  | _, _, .nil => .nil
  | _, _, .cons h t => .cons (rep_key _) (rep_keys t)
theorem asKS_keys : ∀ {kvs : List (Key × D)} {ks : List Str}, asKS kvs = some ks → kvs.map (·.1) = ks.map Sum.inr
  | [], _, h => by cases h; rfl
  | (.inr s, d) :: r, _, h => by
    simp only [asKS, Option.map_eq_some_iff] at h
    obtain ⟨l, h1, rfl⟩ := h
    rw [List.map_cons, asKS_keys h1]; rfl
  | (.inl s, d) :: r, _, h => by cases h
theorem asKI_keys : ∀ {kvs : List (Key × D)} {ks : List Int}, asKI kvs = some ks → kvs.map (·.1) = ks.map Sum.inl
  | [], _, h => by cases h; rfl
  | (.inl s, d) :: r, _, h => by
    simp only [asKI, Option.map_eq_some_iff] at h
    obtain ⟨l, h1, rfl⟩ := h
    rw [List.map_cons, asKI_keys h1]; rfl
  | (.inr s, d) :: r, _, h => by cases h
end
section
variable {X : Cx} {A : AP}
theorem reps1 {T : Tab0} {F : Hp} {ρ : List Addr} {d : D} {xs : List V} (r : Reps T F ρ [d] xs) : ∃ x, xs = [x] ∧ Rep T F ρ d x := by
  cases r with
  | cons h t => cases t; exact ⟨_, rfl, h⟩
theorem reps2 {T : Tab0} {F : Hp} {ρ : List Addr} {d e : D} {xs : List V} (r : Reps T F ρ [d, e] xs) : ∃ x y, xs = [x, y] ∧ Rep T F ρ d x ∧ Rep T F ρ e y := by
  cases r with
  | cons h t => cases t with
    | cons h' t' => cases t'; exact ⟨_, _, rfl, h, h'⟩
theorem cd_len : CallD X A (.builtin "len") lenD := by
  intro pins s σ H xs us Q I r h
  obtain ⟨F, ρ, S, ds, rel, rs, post⟩ := h
  unfold lenD at post
  split at post
  · obtain ⟨x, rfl, r1⟩ := reps1 rs
    cases r1
    split at post
    · rename_i hl
      exact call_len_str pins s σ H _ us Q I r ⟨_, rfl, big_line hl, post.now rel (.int _)⟩
    · exact post.elim
  · obtain ⟨x, rfl, r1⟩ := reps1 rs
    split at post
    · rename_i ds h1
      obtain ⟨p, vs, rfl, hs, q⟩ := rel.asQ r1 h1
      exact call_len_seq pins s σ H _ us Q I r ⟨p, vs, rfl, hs, by rw [← q.len]; exact post.now rel (.int _)⟩
    · split at post
      · rename_i kvs hk
        obtain ⟨p, kv, rfl, hp, rk⟩ := rel.asK r1 hk
        obtain ⟨u, rfl, rx⟩ := vals1 r
        cases rx
        exact d_len I hp fun t s' I' => ⟨.int kv.length, H, I', ⟨t, rfl⟩, by rw [← rk.len]; exact post.now rel (.int _)⟩
      · exact post.elim
  · exact post.elim
theorem cd_abs : CallD X A (.builtin "abs") absD := by
  intro pins s σ H xs us Q I r h
  obtain ⟨F, ρ, S, ds, rel, rs, post⟩ := h
  unfold absD at post
  split at post
  · obtain ⟨x, rfl, r1⟩ := reps1 rs
    cases r1
    exact call_abs pins s σ H _ us Q I r ⟨_, rfl, post.now rel (.int _)⟩
  · exact post.elim
theorem cd_max (hc : X.calm = true) : CallD X A (.builtin "max") maxD := by
  intro pins s σ H xs us Q I r h
  obtain ⟨F, ρ, S, ds, rel, rs, post⟩ := h
  unfold maxD at post
  split at post
  · obtain ⟨x, y, rfl, r1, r2⟩ := reps2 rs
    cases r1; cases r2
    exact call_max2 hc pins s σ H _ us Q I r ⟨_, _, rfl, post.now rel (.int _)⟩
  · exact post.elim
theorem cd_min (hc : X.calm = true) : CallD X A (.builtin "min") minD := by
  intro pins s σ H xs us Q I r h
  obtain ⟨F, ρ, S, ds, rel, rs, post⟩ := h
  unfold minD at post
  split at post
  · obtain ⟨x, y, rfl, r1, r2⟩ := reps2 rs
    cases r1; cases r2
    exact call_min2 hc pins s σ H _ us Q I r ⟨_, _, rfl, post.now rel (.int _)⟩
  · exact post.elim
theorem cd_int : CallD X A (.type "int") intD := by
  intro pins s σ H xs us Q I r h
  obtain ⟨F, ρ, S, ds, rel, rs, post⟩ := h
  unfold intD at post
  split at post
  · obtain ⟨x, rfl, r1⟩ := reps1 rs
    cases r1
    exact call_int1 pins s σ H _ us Q I r (.inl ⟨_, rfl, post.now rel (.int _)⟩)
  · obtain ⟨x, rfl, r1⟩ := reps1 rs
    cases r1
    exact call_int1 pins s σ H _ us Q I r (.inr ⟨_, rfl, post.now rel (.int _)⟩)
  · exact post.elim
theorem cd_str : CallD X A (.type "str") strD := by
  intro pins s σ H xs us Q I r h
  obtain ⟨F, ρ, S, ds, rel, rs, post⟩ := h
  unfold strD at post
  split at post
  · obtain ⟨x, rfl, r1⟩ := reps1 rs
    cases r1
    split at post
    · rename_i hl
      exact call_str_int pins s σ H _ us Q I r ⟨_, rfl, hl, post.now rel (.str _)⟩
    · exact post.elim
  · exact post.elim
theorem cd_ord : CallD X A (.builtin "ord") ordD := by
  intro pins s σ H xs us Q I r h
  obtain ⟨F, ρ, S, ds, rel, rs, post⟩ := h
  unfold ordD at post
  split at post
  · obtain ⟨x, rfl, r1⟩ := reps1 rs
    cases r1
    split at post
    · rename_i hl
      exact call_ord pins s σ H _ us Q I r ⟨_, rfl, hl, post.now rel (.int _)⟩
    · exact post.elim
  · exact post.elim
theorem asL_bind {S : Store} {d : D} {α : Type} {f : List D → Option α} {bs : α} (h : (asL S d).bind f = some bs) : ∃ ds, asL S d = some ds ∧ f ds = some bs := Option.bind_eq_some_iff.mp h
theorem cd_all (hc : X.calm = true) : CallD X A (.builtin "all") allD := by
  intro pins s σ H xs us Q I r h
  obtain ⟨F, ρ, S, ds, rel, rs, post⟩ := h
  unfold allD at post
  split at post
  · obtain ⟨x, rfl, r1⟩ := reps1 rs
    split at post
    · rename_i bs hb
      obtain ⟨l, h1, h2⟩ := asL_bind hb
      obtain ⟨p, vs, rfl, hs, q⟩ := rel.asL r1 h1
      have e := reps_bs q h2
      subst e
      exact cr_all hc pins s σ H _ us Q I r ⟨_, _, rfl, hs, post.now rel (.bl _)⟩
    · exact post.elim
  · exact post.elim
theorem cd_any (hc : X.calm = true) : CallD X A (.builtin "any") anyD := by
  intro pins s σ H xs us Q I r h
  obtain ⟨F, ρ, S, ds, rel, rs, post⟩ := h
  unfold anyD at post
  split at post
  · obtain ⟨x, rfl, r1⟩ := reps1 rs
    split at post
    · rename_i bs hb
      obtain ⟨l, h1, h2⟩ := asL_bind hb
      obtain ⟨p, vs, rfl, hs, q⟩ := rel.asL r1 h1
      have e := reps_bs q h2
      subst e
      exact cr_any hc pins s σ H _ us Q I r ⟨_, _, rfl, hs, post.now rel (.bl _)⟩
    · exact post.elim
  · exact post.elim
theorem cd_sum (hc : X.calm = true) : CallD X A (.builtin "sum") sumD := by
  intro pins s σ H xs us Q I r h
  obtain ⟨F, ρ, S, ds, rel, rs, post⟩ := h
  unfold sumD at post
  split at post
  · obtain ⟨x, rfl, r1⟩ := reps1 rs
    split at post
    · rename_i bs hb
      obtain ⟨l, h1, h2⟩ := asL_bind hb
      obtain ⟨p, vs, rfl, hs, q⟩ := rel.asL r1 h1
      have e := reps_is q h2
      subst e
      exact cr_sum hc pins s σ H _ us Q I r ⟨_, _, rfl, hs, post.now rel (.int _)⟩
    · exact post.elim
  · exact post.elim
theorem cd_tuple : CallD X A (.type "tuple") tupleD := by
  intro pins s σ H xs us Q I r h
  obtain ⟨F, ρ, S, ds, rel, rs, post⟩ := h
  unfold tupleD at post
  split at post
  · obtain ⟨x, rfl, r1⟩ := reps1 rs
    split at post
    · rename_i ds h1
      unfold asQ at h1
      split at h1
      · cases h1
        obtain ⟨p, vs, rfl, hs, q⟩ := sqT_sub rel r1
        exact call_tuple_of pins s σ H _ us Q I r ⟨p, vs, rfl, .inr ⟨hs, post.now rel r1⟩⟩
      · obtain ⟨p, vs, rfl, hs, q⟩ := rel.asL r1 h1
        exact call_tuple_of pins s σ H _ us Q I r ⟨p, vs, rfl, .inl ⟨hs, post.tup rel q⟩⟩
    · exact post.elim
  · exact post.elim
/-- a view and the dict that it shows -/
theorem view_at {T : Tab} {F H : Hp} {ρ : List Addr} {S : Store} {d : D} {v : V} {kvs : List (Key × D)} (rel : Rel T F ρ S H) (r : Rep T F ρ (.keys d) v) (h : asK S d = some kvs) : ∃ p a kv, v = .ref p ∧ H p = some (VwH p a) ∧ Rd H a (.dK kv) ∧ RepK T F ρ kvs kv := by
  cases r with
  | keys h0 r0 =>
    obtain ⟨a, kv, e, hp, rk⟩ := rel.asK r0 h
    cases e
    exact ⟨_, _, kv, rfl, rel.sub.ex h0 VwH.nd, hp, rk⟩
theorem cd_list {m : Bool} (hc : X.calm = true) : CallD X A (.type "list") (listD m) := by
  intro pins s σ H xs us Q I r h
  obtain ⟨F, ρ, S, ds, rel, rs, post⟩ := h
  unfold listD at post
  split at post
  · obtain ⟨x, rfl, r1⟩ := reps1 rs
    split at post
    · rename_i kvs h1
      obtain ⟨p, a, kv, rfl, hp, ha, rk⟩ := view_at rel r1 h1
      obtain ⟨u, rfl, rx⟩ := vals1 r
      cases rx
      obtain ⟨z, lo, vs, rv, dd⟩ := dk_rd I.hok ha
      obtain ⟨ep, hat⟩ := dd.dictAt
      have ek : (kv.map fun kv => kV kv.1) = vs.map fun p => kV p.1 := by
        have e := congrArg (List.map kV) rv.keys
        rw [List.map_map, List.map_map] at e
        exact e
      have hv : PySem.W.KdlKeysView s.heap p a := (I.hok p _ hp).1
      refine PySem.W.kdl_call (PySem.W.kdl_keys (knd := mixKind X.prog X.w) (kvs := vs) (ep := ep)) (I.ok.hd hc) ⟨hv, hat⟩ (by rw [← rv.length]; exact z) fun h' tk acc c' hk hD hacc => ?_
      have hv : Vals (vs.map fun p => kV p.1) acc.toList := keys_at (by rw [Array.length_toList]; exact hacc.1) fun j v e => hacc.2 j v (by rw [← Array.getElem?_toList]; exact e)
      refine ⟨.ref s.heap.objs.size, upd H s.heap.objs.size (.lst (kv.map fun kv => kV kv.1)), I.laid (t' := tk) hk (Nat.le_refl _)
        (show ObjOk X.prog X.w _ _ _ (.lst (kv.map fun kv => kV kv.1)) from ⟨by rw [List.length_map]; exact z, acc.toList, c', by rw [ek]; exact hv, by rw [Array.toArray_toList]; exact hD⟩), rfl, ?_⟩
      exact post.outL rel (rep_keys rk) _ (I.hok.fresh (Nat.le_refl _))
    · exact post.elim
  · obtain ⟨x, rfl, r1⟩ := reps1 rs
    split at post
    · rename_i ds h1
      obtain ⟨p, vs, rfl, hs, q⟩ := rel.asQ r1 h1
      exact call_list_of pins s σ H _ us Q I r ⟨p, vs, rfl, hs, post.outL rel q⟩
    · exact post.elim
  · exact post.elim
/-- what a walk over a dict's keys gives: the keys, in turn -/
theorem walked {α : Type} {W : List Value → List α → Prop} {vs : List (Key × Value)} {ks : List α} {got : Array Value} {inj : α → Key} (hk : vs.map (·.1) = ks.map inj) (hg : ItemsOf (fun i v => ∃ k x, vs[i]? = some (k, x) ∧ keyIs k v = true) got vs.length)
    (mk : ∀ {us : List Value} {qs : List α}, us.length = qs.length → (∀ (j : Nat) (v : Value), us[j]? = some v → ∃ q, qs[j]? = some q ∧ keyIs (inj q) v = true) → W us qs) : got.toList.length = ks.length ∧ W got.toList ks := by
  have len : got.toList.length = ks.length := by
    have := congrArg List.length hk
    simp only [List.length_map] at this
    rw [Array.length_toList, hg.1, this]
  refine ⟨len, mk len fun j v at_ => ?_⟩
  obtain ⟨kq, xq, h1, h2⟩ := hg.2 j v (by simpa using at_)
  have at2 : (vs.map (·.1))[j]? = some kq := by simp [h1]
  rw [hk, List.getElem?_map, Option.map_eq_some_iff] at at2
  obtain ⟨q, hq, rfl⟩ := at2
  exact ⟨q, hq, h2⟩
theorem cd_sorted {m : Bool} (hc : X.calm = true) : CallD X A (.builtin "sorted") (sortedD m) := by
  intro pins s σ H xs us Q I r h
  obtain ⟨F, ρ, S, ds, rel, rs, post⟩ := h
  unfold sortedD at post
  split at post
  · obtain ⟨x, rfl, r1⟩ := reps1 rs
    split at post
    · rename_i kvs h1
      obtain ⟨p, a, kv, rfl, hp, ha, rk⟩ := view_at rel r1 h1
      obtain ⟨u, rfl, rx⟩ := vals1 r
      cases rx
      obtain ⟨z, lo, vs, rv, dd⟩ := dk_rd I.hok ha
      obtain ⟨ep, hat⟩ := dd.dictAt
      have vw : PySem.W.KdlKeysView s.heap p a := (I.hok p _ hp).1
      have kk : kvs.map (·.1) = vs.map (·.1) := rk.keys.trans rv.keys
      refine Calls.call_function_entry kind_sorted plain_sorted entry_sorted (args_sorted1 _) ?_
      unfold Builtin.«sorted»
      refine wpAny_bind (m := checkCount "sorted" 1 1 _) (wpAny_pure (wpAny_bind ?_))
      refine PySem.W.kdu_collect (A := X.A.in1) (PySem.W.kdl_keys (knd := mixKind X.prog X.w) (kvs := vs) (ep := ep)) (I.ok.hd hc) ⟨vw, hat⟩ (by rw [← rv.length]; exact z) fun g tk got keep hgot => ?_
      have J : Inv X pins σ H { s with heap := g, toks := tk } := I.kept keep
      -- the list that is sorted stands at the heap's end
      have at_ : (g.push (seqObj "list" got.toList.toArray 0)).get? g.objs.size = some (seqObj "list" got.toList.toArray 0) := Heap.get?_push_size g rfl
      have old : ∀ (out : Array Value) (b : Addr) (o : Obj), g.get? b = some o → (PyProof.Rows.sortedHeap (g.push (seqObj "list" got.toList.toArray 0)) g.objs.size got.toList out).get? b = some o := fun out b o e => by
        have lt := Heap.lt_size e
        rw [sortedHeap_old (Nat.ne_of_lt lt) (by rw [size_push']; exact Nat.lt_succ_of_lt lt)]
        exact Heap.get?_push_of_some _ e
      split at post
      · rename_i ks hks
        split at post
        · rename_i h64
          obtain ⟨len, sa⟩ := walked (W := StrsAre) (kk.symm.trans (asKS_keys hks)) hgot fun el ea => strs_at el fun j v e => by
            obtain ⟨q, h1, h2⟩ := ea j v e
            obtain ⟨t, ev⟩ := Value.isStrOf_shape (x := q) (v := v) h2
            exact ⟨q, t, h1, ev⟩
          refine wpAny_bind (wpAny_newList (wpAny_bind (wpAny_holding ?_)) (by rw [len]; exact small64 h64))
          refine wpAny_call_entry slot_list_sort ⟨_, at_, rfl⟩ entry_list_sort (list_sort_treeK strKind_oneLt (s := { s with heap := g.push (seqObj "list" got.toList.toArray 0), toks := tk }) at_ sa.keysOf
            (fun _ _ _ e => keyKind_strs (by rw [← e]; exact sa)) (by rw [len]; exact h64) fun st' hp hs => ⟨_, rfl, ?_⟩) (args_list_sort _)
          obtain ⟨ys, g1, g2, g3⟩ := sorted_out_str sa hp hs
          obtain ⟨n, at2⟩ := sortedHeap_at (vs := got.toList) (out := (arrOf st').map (·.2)) at_
          have lys : (ys.map V.str).length ≤ sizeLine := by rw [List.length_map, g2.length_eq]; exact small64 h64
          have J2 := J.laid (t' := tk) (a := g.objs.size) (o := .lst (ys.map V.str)) (fun b o e => old _ b o e) (Nat.le_refl _) ⟨lys, _, n, vals_of_strs g1, by rw [Array.toArray_toList]; exact at2⟩
          exact wpAny_pure ⟨_, rfl, .ref g.objs.size, _, J2, rfl, by rw [sortS_eq g2 g3]; exact post.outL rel (rep_strs _) _ (J.hok.fresh (Nat.le_refl _))⟩
        · exact post.elim
      · split at post
        · rename_i ks hks
          split at post
          · rename_i h64
            obtain ⟨len, sa⟩ := walked (W := IntsAre) (kk.symm.trans (asKI_keys hks)) hgot fun el ea => ints_each el fun j v e => by
              obtain ⟨q, h1, h2⟩ := ea j v e
              obtain ⟨t, ev⟩ := (show ∃ t, v = Value.int q t from relV_key (k := Sum.inl q) h2)
              exact ⟨q, t, h1, ev⟩
            refine wpAny_bind (wpAny_newList (wpAny_bind (wpAny_holding ?_)) (by rw [len]; exact small64 h64))
            refine wpAny_call_entry slot_list_sort ⟨_, at_, rfl⟩ entry_list_sort (list_sort_tree (s := { s with heap := g.push (seqObj "list" got.toList.toArray 0), toks := tk }) at_ sa (by omega) fun out ys g1 g2 g3 => ⟨_, rfl, ?_⟩) (args_list_sort _)
            obtain ⟨n, at2⟩ := sortedHeap_at (vs := got.toList) (out := out) at_
            have lys : (ys.map V.int).length ≤ sizeLine := by rw [List.length_map, g2.length_eq]; exact small64 h64
            have J2 := J.laid (t' := tk) (a := g.objs.size) (o := .lst (ys.map V.int)) (fun b o e => old _ b o e) (Nat.le_refl _) ⟨lys, _, n, vals_of_ints g1, by rw [Array.toArray_toList]; exact at2⟩
            exact wpAny_pure ⟨_, rfl, .ref g.objs.size, _, J2, rfl, by rw [sortI_eq g2 g3]; exact post.outL rel (rep_ints _) _ (J.hok.fresh (Nat.le_refl _))⟩
          · exact post.elim
        · exact post.elim
    · exact post.elim
  · obtain ⟨x, rfl, r1⟩ := reps1 rs
    split at post
    · rename_i ds h1
      obtain ⟨p, vs, rfl, hs, q⟩ := rel.asL r1 h1
      split at post
      · rename_i ks hk
        split at post
        · rename_i h64
          have e := reps_ss q hk
          subst e
          exact cr_sortedS pins s σ H _ us Q I r ⟨_, ks, rfl, hs, h64, fun ys p g1 g2 hp => by rw [sortS_eq g1 g2]; exact post.outL rel (rep_strs _) p hp⟩
        · exact post.elim
      · split at post
        · rename_i ks hk
          split at post
          · rename_i h64
            have e := reps_is q hk
            subst e
            exact cr_sorted pins s σ H _ us Q I r ⟨_, ks, rfl, hs, h64, fun ys p g1 g2 hp => by rw [sortI_eq g1 g2]; exact post.outL rel (rep_ints _) p hp⟩
          · exact post.elim
        · exact post.elim
    · exact post.elim
  · exact post.elim
end
end Dee

set_option maxRecDepth 100000
set_option maxHeartbeats 4000000
namespace Dee
open PySem PySem.Spec L2 PyProof.Rows
/-! ### displays -/
def mTup (a : MA) : ME := fun δ S => (a δ S).bind fun ds S1 => if ds.length ≤ 1000000 then .ok (.tup ds) S1 else .bad
def mLst (m : Bool) (a : MA) : ME := fun δ S => (a δ S).bind fun ds S1 => if ds.length ≤ 1000000 then ofO (outL m ds S1) else .bad
section
variable {X : Cx} {A : AP} {W : WX} {es : List Expr} {ms : MA} {pos : Pos}
theorem se_tup {x1} (h : SA X A W es ms) : SE X A W (.Tuple es x1 pos) (mTup ms) := by
  refine PE.imp (pe_tup h) fun σ H Q ⟨F, ρ, δ, S, rel, env, post⟩ => ?_
  refine (step (R1 := RA (tb X A)) rel env post).mono fun xs H1 ⟨F1, ρ1, S1, ds, x1, rel1, env1, q1, p1⟩ => ?_
  split at p1
  · rename_i hl
    exact ⟨by rw [← q1.len]; exact big_line hl, PostO.tup (S := S1) p1 rel1 q1⟩
  · exact p1.elim
theorem se_lst {m : Bool} (h : SA X A W es ms) : SE X A W (.List es pos) (mLst m ms) := by
  refine PE.imp (pe_lst h) fun σ H Q ⟨F, ρ, δ, S, rel, env, post⟩ => ?_
  refine (step (R1 := RA (tb X A)) rel env post).mono fun xs H1 ⟨F1, ρ1, S1, ds, x1, rel1, env1, q1, p1⟩ => ?_
  split at p1
  · rename_i hl
    exact ⟨by rw [← q1.len]; exact big_line hl, (post_ofO p1).outL rel1 q1⟩
  · exact p1.elim
end
/-! ### a[b] -/
def asC (d : D) : Option (List (Str × D)) := match d with
  | .kod kvs => some kvs
  | _ => none
def ixD : P2
  | .str z, .int i, S => if z.length ≤ 1000000 then (atI z.cps.toList i).map fun c => (.str ⟨#[c]⟩, S) else none
  | .kod kvs, .str k, S => (kvs.lookup k).map fun d => (d, S)
  | a, b, S => match asQ S a, b with
    | some ds, .int i => (atI ds i).map fun d => (d, S)
    | _, b => match asK S a, keyD b with
      | some kvs, some k => (lk kvs k).map fun d => (d, S)
      | _, _ => none
def rDi (T : Tab) (f : P2) : R2 := rD T f
def IxDc (X : Cx) (A : AP) (f : P2) : Prop := IxR X (rD (tb X A) f)
theorem Reps.atI {T : Tab0} {F : Hp} {ρ : List Addr} {ds : List D} {vs : List V} {i : Int} {d : D} (r : Reps T F ρ ds vs) (h : L2.atI ds i = some d) : ∃ v, L2.atI vs i = some v ∧ Rep T F ρ d v := by
  unfold L2.atI at h ⊢
  rw [← r.len]
  obtain ⟨j, h1, h2⟩ := Option.bind_eq_some_iff.mp h
  obtain ⟨v, h3, h4⟩ := r.get h2
  exact ⟨v, by rw [h1]; exact h3, h4⟩
theorem kod_at {T : Tab0} {F : Hp} {ρ : List Addr} {kvs : List (Str × D)} {v : V} (r : Rep T F ρ (.kod kvs) v) : ∃ a, v = .ref a ∧ KodOk T a kvs := by
  cases r with
  | kod h => exact ⟨_, rfl, h⟩
theorem flD_made {T : Tab0} {F : Hp} {ρ : List Addr} {d : D} {v : V} (h : flD d = some v) : Rep T F ρ d v := by
  cases d <;> first | (cases h; constructor) | cases h
section
variable {X : Cx} {A : AP} {W : WX}
theorem od_ix : IxDc X A ixD := by
  intro value slice pins s σ H x y v u Q I rx ry h hs
  obtain ⟨F, ρ, S, d1, d2, rel, r1, r2, post⟩ := h
  unfold ixD at post
  split at post
  · rename_i z i
    cases r1; cases r2
    split at post
    · rename_i hz
      cases hc : atI z.cps.toList i with
      | none => rw [hc] at post; exact post.elim
      | some c =>
        rw [hc] at post
        exact ix_str value slice pins s σ H _ _ v u Q I rx ry ⟨z, i, c, rfl, rfl, big_line hz, hc, post.now rel (.str _)⟩ hs
    · exact post.elim
  · rename_i kvs k
    cases r2
    obtain ⟨a, rfl, es, n, hl, hk, low, hf⟩ := kod_at r1
    cases hc : kvs.lookup k with
    | none => rw [hc] at post; exact post.elim
    | some d =>
      rw [hc] at post
      have hf := hf k
      rw [hc] at hf
      obtain ⟨u0, v0, e1, e2, e3⟩ := hf
      cases rx
      obtain ⟨t, rfl⟩ := ry
      have hm := PySem.W.mapOf_K (prog := X.prog) (w := X.w) I.kIn hl hk
      exact tail_any hm.typeIs slot_dict_getitem.lookup (wpAny_getItem_of (strKind_is X.prog X.w k t) hm e1 ⟨v0, H, I.tok _, e3, post.now rel (flD_made e2)⟩) hs
  · split at post
    · rename_i ds i h1 _ _
      cases r2
      cases hc : atI ds i with
      | none => rw [hc] at post; exact post.elim
      | some d =>
        rw [hc] at post
        obtain ⟨p, vs, rfl, hq, rs⟩ := rel.asQ r1 h1
        obtain ⟨v0, e1, e2⟩ := rs.atI hc
        rcases hq with hq | hq
        · exact ix_list value slice pins s σ H _ _ v u Q I rx ry ⟨p, vs, i, v0, rfl, rfl, hq, e1, post.now rel e2⟩ hs
        · exact ix_tup value slice pins s σ H _ _ v u Q I rx ry ⟨p, vs, i, v0, rfl, rfl, hq, e1, post.now rel e2⟩ hs
    · split at post
      · rename_i kvs k h1 h2
        obtain ⟨p, kv, rfl, hp, rk⟩ := rel.asK r1 h1
        have ek := key_rep r2 h2
        subst ek
        cases rx
        rcases rk.lk k with ⟨l1, l2⟩ | ⟨d, v0, l1, l2, r0⟩
        · rw [l1] at post; exact post.elim
        · rw [l1] at post
          obtain ⟨z, hd, us, rv, dd⟩ := dk_rd I.hok hp
          obtain ⟨w', hw, rw'⟩ := RelO.some_of (v := v0) (o := valueAt us k) (by rw [← l2]; exact rv.val k)
          exact tail_any dd.typeIs slot_dict_getitem.lookup (wpAny_getItem_of (kV_is ry) dd.mapOf hw ⟨v0, H, I.tok _, rw', post.now rel r0⟩) hs
      · exact post.elim
theorem se_ix {a b : Expr} {ma mb : ME} {pos : Pos} (ha : SE X A W a ma) (hb : SE X A W b mb) (hs : PlainIx b := by exact fun _ _ => rfl) : SE X A W (.Subscript a b pos) (mBin ixD ma mb) := PE.imp (pe_ix od_ix ha hb hs) fun _ _ _ h => two h
/-! ### a[b:c] -/
abbrev MO := Dn → Store → Out (Option Int)
abbrev RO : Hp → List Addr → Option Int → Option Int → Prop := fun _ _ a b => a = b
def SO (X : Cx) (A : AP) (W : WX) (e : Option Expr) (m : MO) : Prop := PO X e (tM RO (tb X A) W m)
def oNone : MO := fun _ S => .ok none S
def oSome (a : ME) : MO := fun δ S => (a δ S).bind fun d S1 => match d with
  | .int i => .ok (some i) S1
  | _ => .bad
theorem PO.imp {X : Cx} {e : Option Expr} {t t' : TO} (h : PO X e t) (i : ∀ σ H Q, t' σ H Q → t σ H Q) : PO X e t' := ⟨fun pins s σ H Q I q => h.run pins s σ H Q I (i _ _ _ q)⟩
theorem so_none : SO X A W none oNone := PO.imp po_none fun σ H Q ⟨F, ρ, δ, S, rel, env, post⟩ => post F ρ H none (Ext.refl _ _) rel rfl
theorem so_some {e : Expr} {m : ME} (h : SE X A W e m) : SO X A W (some e) (oSome m) := PO.imp (po_some h) fun σ H Q ⟨F, ρ, δ, S, rel, env, post⟩ => by
  refine (step (R1 := RD (tb X A)) rel env post).mono fun x H1 ⟨F1, ρ1, S1, d1, x1, rel1, env1, q1, p1⟩ => ?_
  cases d1 with
  | int i => cases q1; exact ⟨i, rfl, p1 _ _ _ _ (Ext.refl _ _) rel1 rfl⟩
  | _ => exact p1.elim
def cutL {α : Type} (xs : List α) (lo hi : Option Int) : List α := (xs.drop (HT.sIx xs.length 0 lo)).take (HT.sIx xs.length xs.length hi - HT.sIx xs.length 0 lo)
def slD (m : Bool) (d : D) (lo hi : Option Int) (S : Store) : Option (D × Store) := match d with
  | .str z => if z.length ≤ 1000000 then some (.str ⟨(cutL z.cps.toList lo hi).toArray⟩, S) else none
  | .tup ds => some (.tup (cutL ds lo hi), S)
  | d => match asL S d with
    | some ds => outL m (cutL ds lo hi) S
    | none => none
def mSl (m : Bool) (a : ME) (lo hi : MO) : ME := fun δ S => (a δ S).bind fun d S1 => (lo δ S1).bind fun l S2 => (hi δ S2).bind fun h S3 => ofO (slD m d l h S3)
theorem cutL_all {α : Type} {xs : List α} {lo hi : Option Int} (h : HT.sIx xs.length 0 lo = 0 ∧ HT.sIx xs.length xs.length hi = xs.length) : cutL xs lo hi = xs := by
  unfold cutL; rw [h.1, h.2]; simp
theorem Reps.cut {T : Tab0} {F : Hp} {ρ : List Addr} {ds : List D} {vs : List V} (r : Reps T F ρ ds vs) (lo hi : Option Int) : Reps T F ρ (cutL ds lo hi) (cutV vs lo hi) := by
  unfold cutL cutV
  rw [r.len]
  exact (r.drop _).take _
def rS (T : Tab) (m : Bool) : V → Option Int → Option Int → Hp → VK → Prop := fun x lo hi H Q => ∃ F ρ S d, Rel T F ρ S H ∧ Rep T F ρ d x ∧ PostO T F ρ Q (slD m d lo hi S)
theorem od_sl {m : Bool} : SlR X (rS (tb X A) m) := by
  intro pins s σ H x v vl vu lo hi sl Q I rx hs pl pu h
  obtain ⟨F, ρ, S, d, rel, r1, post⟩ := h
  unfold slD at post
  split at post
  · rename_i z
    cases r1
    split at post
    · rename_i hz
      exact sl_str pins s σ H _ v vl vu lo hi sl Q I rx hs pl pu ⟨z, rfl, big_line hz, post.now rel (.str _)⟩
    · exact post.elim
  · rename_i ds
    obtain ⟨p, vs, rfl, hq, rs⟩ := sqT_sub rel r1
    refine sl_tupA pins s σ H _ v vl vu lo hi sl Q I rx hs pl pu ⟨p, vs, rfl, hq, fun hw => ?_, fun hw => post.tup rel (rs.cut lo hi)⟩
    rw [← rs.len] at hw
    rw [cutL_all hw] at post
    exact post.now rel r1
  · split at post
    · rename_i ds h1
      obtain ⟨p, vs, rfl, hq, rs⟩ := rel.asL r1 h1
      exact sl_list pins s σ H _ v vl vu lo hi sl Q I rx hs pl pu ⟨p, vs, rfl, hq, post.outL rel (rs.cut lo hi)⟩
    · exact post.elim
theorem se_sl {m : Bool} {e : Expr} {lo hi : Option Expr} {me : ME} {ml mh : MO} {p2 pos : Pos} (he : SE X A W e me) (hl : SO X A W lo ml) (hh : SO X A W hi mh) : SE X A W (.Subscript e (.Slice lo hi none p2) pos) (mSl m me ml mh) := by
  refine PE.imp (pe_slice (od_sl (A := A) (m := m)) he hl hh) fun σ H Q ⟨F, ρ, δ, S, rel, env, post⟩ => ?_
  refine (step (R1 := RD (tb X A)) rel env post).mono fun x H1 ⟨F1, ρ1, S1, d1, x1, rel1, env1, q1, p1⟩ => ?_
  refine (step (R1 := RO) rel1 env1 p1).mono fun l H2 ⟨F2, ρ2, S2, l', x2, rel2, env2, q2, p2⟩ => ?_
  refine (step (R1 := RO) rel2 env2 p2).mono fun h H3 ⟨F3, ρ3, S3, h', x3, rel3, env3, q3, p3⟩ => ?_
  cases q2; cases q3
  exact ⟨F3, ρ3, S3, d1, rel3, q1.mono (x2.trans x3), post_ofO p3⟩
/-- xs[::-1] -/
def revD (m : Bool) : P1 := fun d S => match asL S d with
  | some ds => outL m ds.reverse S
  | none => none
theorem se_rev {m : Bool} {e : Expr} {me : ME} {k : Nat} {p1 p2 p3 pos : Pos} (he : SE X A W e me) : SE X A W (.Subscript e (.Slice none none (some (.UnaryOp .USub (.Constant (.int 1) k p1) p2)) p3) pos) (mUn (revD m) me) := by
  refine PE.imp (pe_revL he) fun σ H Q h => ?_
  refine (one h).mono fun x H1 ⟨F1, ρ1, S1, d1, rel1, q1, p1⟩ => ?_
  unfold revD at p1
  split at p1
  · rename_i ds h1
    obtain ⟨p, vs, rfl, hq, rs⟩ := rel1.asL q1 h1
    exact ⟨p, vs, rfl, hq, p1.outL rel1 rs.reverse⟩
  · exact p1.elim
end
end Dee

set_option maxRecDepth 100000
set_option maxHeartbeats 4000000
namespace Dee
open PySem PySem.Spec L2 PyProof.Rows
/-! ### methods of built-in things -/
inductive Kd where
  | str | lst | dct | kod
def Kd.T : Kd → String
  | .str => "str" | .lst => "list" | .dct => "dict" | .kod => "dict"
def isK (k : Kd) (S : Store) (d : D) : Bool := match k with
  | .str => match d with
    | .str _ => true
    | _ => false
  | .lst => (asL S d).isSome
  | .dct => (asK S d).isSome
  | .kod => match d with
    | .kod _ => true
    | _ => false
abbrev PM := D → List D → Store → Option (D × Store)
def mMeth (k : Kd) (f : PM) (o : ME) (a : MA) : ME := fun δ S => (o δ S).bind fun d S1 => if isK k S1 d = true then (a δ S1).bind fun ds S2 => ofO (f d ds S2) else .bad
def rM (T : Tab) (f : PM) : V → List V → Hp → VK → Prop := fun x xs H Q => ∃ F ρ S d ds, Rel T F ρ S H ∧ Rep T F ρ d x ∧ Reps T F ρ ds xs ∧ PostO T F ρ Q (f d ds S)
def MthD (X : Cx) (A : AP) (id : String) (f : PM) : Prop := MtR X id (rM (tb X A) f)
section
variable {X : Cx} {A : AP} {W : WX}
theorem kind_at {k : Kd} {pins : List (Addr × Obj)} {σ : L2.St} {H F : Hp} {s : Shared} {ρ : List Addr} {S : Store} {d : D} {x : V} {v : Value} (I : Inv X pins σ H s) (rel : Rel (tb X A) F ρ S H) (r : Rep (tb X A) F ρ d x) (rx : RelV x v) (h : isK k S d = true) :
    s.TypeIs v k.T ∧ ∀ a, v = .ref a → ∃ ob, s.heap.get? a = some ob ∧ ob.dict = none := by
  cases k with
  | str =>
    cases d <;> first | cases h | skip
    cases r
    obtain ⟨t, rfl⟩ := rx
    exact ⟨typeIs_str _ _ _, fun a e => by cases e⟩
  | lst =>
    obtain ⟨ds, e⟩ := Option.isSome_iff_exists.mp h
    obtain ⟨p, vs, rfl, hs, _⟩ := rel.asL r e
    exact tyV_is I rx (show tyV X.K "list" (.ref p) H from .inl ⟨rfl, vs, hs⟩)
  | dct =>
    obtain ⟨ds, e⟩ := Option.isSome_iff_exists.mp h
    obtain ⟨p, kv, rfl, hp, _⟩ := rel.asK r e
    cases rx
    obtain ⟨h1, h2, _⟩ := isD_at I (.inl ⟨kv, hp⟩)
    exact ⟨h1, h2⟩
  | kod =>
    cases d <;> first | cases h | skip
    obtain ⟨a, rfl, es, n, hl, hk, _⟩ := kod_at r
    cases rx
    exact ⟨(PySem.W.mapOf_K (prog := X.prog) (w := X.w) I.kIn hl hk).typeIs, fun b e => by cases e; exact ⟨_, I.kIn _ _ hl, rfl⟩⟩
theorem se_meth {k : Kd} {id : String} {name : Str} {f : PM} {o e : Expr} {es : List Expr} {mo : ME} {ma : MA} {apos cpos : Pos} (pa : PlainAttrs k.T) (slot : Slot k.T name id) (hty : typeOf (.builtin id) = pure (.type "method_descriptor")) (hm : MthD X A id f) (ho : SE X A W o mo) (ha : SA X A W (e :: es) ma)
    (hb : attributeBase o name X.env (eval o X.env) = eval o X.env := by rfl) (hline : (apos.endLine == cpos.line) = true := by rfl)
    (hfew : ((backTo cpos (starEach (e :: es) X.env)).all (fun x => !x.1) && (backToKw cpos (keywordEach [] X.env)).all (fun x => x.1.isSome) && decide ((e :: es).length + ([] : List Keyword).length + (if ([] : List Keyword).isEmpty then 0 else 1) < 30)) = true := by rfl)
    (hs : starEach (e :: es) X.env = (false, eval e X.env) :: starEach es X.env := by rfl) (hp : (backTo cpos (starEach es X.env)).any (·.1) = false := by rfl) :
    SE X A W (.Call (.Attribute o name apos) (e :: es) [] cpos) (mMeth k f mo ma) := by
  refine ⟨fun pins s σ H Q I ⟨F, ρ, δ, S, rel, env, post⟩ => ?_⟩
  refine wpAny_Call_method_late hb hfew hline rfl (thn (ho.run pins s σ H _ I (step (R1 := RD (tb X A)) rel env post)) fun v s1 ⟨x, H1, I1, r1, F1, ρ1, S1, d1, x1, rel1, env1, q1, p1⟩ => ?_)
  split at p1
  · rename_i hk
    obtain ⟨h1, h2⟩ := kind_at I1 rel1 q1 r1 hk
    refine ⟨k.T, id, pa, slot, hty, h1, h2, ?_⟩
    have hA := ha.run cpos pins s1 σ H1 _ I1 (step (R1 := RA (tb X A)) rel1 env1 p1)
    rw [hs] at hA ⊢
    refine Calls.callWith_builtin (by show (false || (backTo cpos (starEach es X.env)).any (·.1)) = false; rw [hp]; rfl) (Calls.evalArgs_plain ?_)
    exact thn hA fun us s2 ⟨vs, H2, I2, r2, F2, ρ2, S2, ds, x2, rel2, env2, q2, p2⟩ => hm pins s2 σ H2 x vs v us Q I2 r1 r2 ⟨F2, ρ2, S2, d1, ds, rel2, q1.mono x2, q2, post_ofO p2⟩
  · exact p1.elim
theorem se_meth0 {k : Kd} {id : String} {name : Str} {f : PM} {o : Expr} {mo : ME} {apos cpos : Pos} (pa : PlainAttrs k.T) (slot : Slot k.T name id) (hty : typeOf (.builtin id) = pure (.type "method_descriptor")) (hm : MthD X A id f) (ho : SE X A W o mo)
    (hb : attributeBase o name X.env (eval o X.env) = eval o X.env := by rfl) (hline : (apos.endLine == cpos.line) = true := by rfl) :
    SE X A W (.Call (.Attribute o name apos) [] [] cpos) (mMeth k f mo aNil) := by
  refine ⟨fun pins s σ H Q I ⟨F, ρ, δ, S, rel, env, post⟩ => ?_⟩
  refine wpAny_Call_method0_late hb hline (thn (ho.run pins s σ H _ I (step (R1 := RD (tb X A)) rel env post)) fun v s1 ⟨x, H1, I1, r1, F1, ρ1, S1, d1, x1, rel1, env1, q1, p1⟩ => ?_)
  split at p1
  · rename_i hk
    obtain ⟨h1, h2⟩ := kind_at I1 rel1 q1 r1 hk
    exact ⟨k.T, id, pa, slot, hty, h1, h2, Calls.callWith_builtin rfl (PySem.evalArgs_none (hm pins s1 σ H1 x [] v [] Q I1 r1 .nil ⟨F1, ρ1, S1, d1, [], rel1, q1, .nil, post_ofO p1⟩))⟩
  · exact p1.elim
/-! ### lists -/
def cellL (S : Store) (d : D) : Option (Nat × List D) := match d with
  | .loc n => match S[n]? with
    | some (.lst ds) => some (n, ds)
    | _ => none
  | _ => none
theorem cellL_inv {S : Store} {d : D} {n : Nat} {ds : List D} (h : cellL S d = some (n, ds)) : d = .loc n ∧ S[n]? = some (.lst ds) := by
  unfold cellL at h
  split at h
  · split at h
    · cases h; exact ⟨rfl, by assumption⟩
    · cases h
  · cases h
theorem Rel.cellL {T : Tab} {F H : Hp} {ρ : List Addr} {S : Store} {d : D} {v : V} {n : Nat} {ds : List D} (rel : Rel T F ρ S H) (r : Rep T F ρ d v) (h : Dee.cellL S d = some (n, ds)) : ∃ p vs, v = .ref p ∧ S[n]? = some (.lst ds) ∧ ρ[n]? = some p ∧ H p = some (.lst vs) ∧ Reps T F ρ ds vs ∧
    ∀ ds' vs', Reps T F ρ ds' vs' → Rel T F ρ (S.set n (.lst ds')) (upd H p (.lst vs')) := by
  obtain ⟨rfl, h1⟩ := cellL_inv h
  cases r with
  | loc h0 =>
    obtain ⟨vs, h2, h3⟩ := rel.lstAt h1 h0
    refine ⟨_, vs, rfl, h1, h0, h2, h3, fun ds' vs' q => rel.cellSet h1 (by simp) h0 ⟨?_, vs', upd_same, q⟩⟩
    exact (rel.cell n _ _ h1 h0).1
def appendD : PM := fun d xs S => match cellL S d, xs with
  | some (n, ds), [x] => if ds.length < 1000000 then some (.non, S.set n (.lst (ds ++ [x]))) else none
  | _, _ => none
def popD : PM := fun d xs S => match cellL S d, xs with
  | some (n, ds), [] => match ds[ds.length - 1]? with
    | some x => some (x, S.set n (.lst ds.dropLast))
    | none => none
  | _, _ => none
def extendD : PM := fun d xs S => match cellL S d, xs with
  | some (n, ds), [x] => match asM S x with
    | some es => if ds.length + es.length ≤ 1000000 then some (.non, S.set n (.lst (ds ++ es))) else none
    | none => none
  | _, _ => none
theorem md_append : MthD X A "list.append" appendD := by
  intro pins s σ H x xs v us Q I rx rxs h
  obtain ⟨F, ρ, S, d, ds, rel, r1, rs, post⟩ := h
  unfold appendD at post
  split at post
  · rename_i n ls y hc
    obtain ⟨p, vs, rfl, h1, h2, h3, h4, h5⟩ := rel.cellL r1 hc
    obtain ⟨z, rfl, rz⟩ := reps1 rs
    split at post
    · rename_i hl
      exact mt_append pins s σ H _ _ v us Q I rx rxs ⟨p, vs, z, rfl, rfl, h3, by rw [← h4.len]; exact Nat.lt_of_lt_of_le hl (big_line (Nat.le_refl _)), post F ρ _ _ (Ext.refl _ _) (h5 _ _ (h4.append (.cons rz .nil))) .non⟩
    · exact post.elim
  · exact post.elim
theorem md_pop : MthD X A "list.pop" popD := by
  intro pins s σ H x xs v us Q I rx rxs h
  obtain ⟨F, ρ, S, d, ds, rel, r1, rs, post⟩ := h
  unfold popD at post
  split at post
  · rename_i n ls hc
    obtain ⟨p, vs, rfl, h1, h2, h3, h4, h5⟩ := rel.cellL r1 hc
    cases rs
    split at post
    · rename_i y hy
      obtain ⟨z, hz, rz⟩ := h4.get hy
      exact mt_pop pins s σ H _ _ v us Q I rx rxs ⟨p, vs, z, rfl, rfl, h3, by rw [← h4.len]; exact hz, post F ρ _ _ (Ext.refl _ _) (h5 _ _ h4.dropLast) rz⟩
    · exact post.elim
  · exact post.elim
theorem md_extend : MthD X A "list.extend" extendD := by
  intro pins s σ H x xs v us Q I rx rxs h
  obtain ⟨F, ρ, S, d, ds, rel, r1, rs, post⟩ := h
  unfold extendD at post
  split at post
  · rename_i n ls y hc
    obtain ⟨p, vs, rfl, h1, h2, h3, h4, h5⟩ := rel.cellL r1 hc
    obtain ⟨z, rfl, rz⟩ := reps1 rs
    split at post
    · rename_i es he
      obtain ⟨q, ws, rfl, h6, h7⟩ := rel.asM rz he
      split at post
      · rename_i hl
        exact mt_extend pins s σ H _ _ v us Q I rx rxs ⟨p, q, vs, ws, rfl, rfl, h3, h6, by rw [← h4.len, ← h7.len]; exact big_line hl, post F ρ _ _ (Ext.refl _ _) (h5 _ _ (h4.append h7)) .non⟩
      · exact post.elim
    · exact post.elim
  · exact post.elim
/-! ### dicts -/
def cellK (S : Store) (d : D) : Option (Nat × List (Key × D)) := match d with
  | .loc n => match S[n]? with
    | some (.dct ds) => some (n, ds)
    | _ => none
  | _ => none
theorem cellK_inv {S : Store} {d : D} {n : Nat} {ds : List (Key × D)} (h : cellK S d = some (n, ds)) : d = .loc n ∧ S[n]? = some (.dct ds) := by
  unfold cellK at h
  split at h
  · split at h
    · cases h; exact ⟨rfl, by assumption⟩
    · cases h
  · cases h
theorem Rel.cellK {T : Tab} {F H : Hp} {ρ : List Addr} {S : Store} {d : D} {v : V} {n : Nat} {ds : List (Key × D)} (rel : Rel T F ρ S H) (r : Rep T F ρ d v) (h : Dee.cellK S d = some (n, ds)) : ∃ p vs, v = .ref p ∧ S[n]? = some (.dct ds) ∧ ρ[n]? = some p ∧ H p = some (.dK vs) ∧ RepK T F ρ ds vs ∧
    ∀ ds' vs', RepK T F ρ ds' vs' → Rel T F ρ (S.set n (.dct ds')) (upd H p (.dK vs')) := by
  obtain ⟨rfl, h1⟩ := cellK_inv h
  cases r with
  | loc h0 =>
    obtain ⟨vs, h2, h3⟩ := rel.dctAt h1 h0
    refine ⟨_, vs, rfl, h1, h0, h2, h3, fun ds' vs' q => rel.cellSet h1 (by simp) h0 ⟨?_, vs', upd_same, q⟩⟩
    exact (rel.cell n _ _ h1 h0).1
def getD2 : PM := fun d xs S => match d, xs with
  | .kod kvs, [.str k, x] => some ((kvs.lookup k).getD x, S)
  | d, [k, x] => match asK S d, keyD k with
    | some kvs, some k => some ((lk kvs k).getD x, S)
    | _, _ => none
  | _, _ => none
def copyD (m : Bool) : PM := fun d xs S => match asK S d, xs with
  | some kvs, [] => outK m kvs S
  | _, _ => none
def keysD : PM := fun d xs S => match asK S d, xs with
  | some _, [] => some (.keys d, S)
  | _, _ => none
def dpopD : PM := fun d xs S => match cellK S d, xs with
  | some (n, ds), [k] => match keyD k with
    | some k => match lk ds k with
      | some x => some (x, S.set n (.dct (dropL ds k)))
      | none => none
    | none => none
  | _, _ => none
theorem md_get2 (hu : X.A.units + 64 < cLine) : MthD X A "dict.get" getD2 := by
  intro pins s σ H x xs v us Q I rx rxs h
  obtain ⟨F, ρ, S, d, ds, rel, r1, rs, post⟩ := h
  unfold getD2 at post
  split at post
  · rename_i kvs k y
    obtain ⟨a, rfl, es, n, hl, hk, low, hf⟩ := kod_at r1
    obtain ⟨y1, y2, rfl, ry1, ry2⟩ := reps2 rs
    obtain ⟨u1, u2, rfl, rv1, rv2⟩ := vals2 rxs
    cases ry1
    cases rx
    obtain ⟨t, rfl⟩ := rv1
    have hf := hf k
    have hm := PySem.W.mapOf_K (prog := X.prog) (w := X.w) I.kIn hl hk
    refine call_meetsIn PySem.F.slot_dict_get hm.typeIs PySem.F.entry_dict_get (PySem.F.args_dict_get_3 _ _ _) (meets_dict_get_default (strKind X.prog X.w) a (strKind_is X.prog X.w k t) low u2) ⟨_, hm, ?_⟩
    cases hc : kvs.lookup k with
    | none =>
      rw [hc] at hf post
      rw [show findBy Value.isStrOf es k = none from hf]
      exact ⟨y2, H, I.tok _, rv2, post.now rel ry2⟩
    | some d =>
      rw [hc] at hf post
      obtain ⟨u0, v0, e1, e2, e3⟩ := hf
      rw [show findBy Value.isStrOf es k = some u0 from e1]
      exact ⟨v0, H, I.tok _, e3, post.now rel (flD_made e2)⟩
  · rename_i k y _
    obtain ⟨y1, y2, rfl, ry1, ry2⟩ := reps2 rs
    obtain ⟨u1, u2, rfl, rv1, rv2⟩ := vals2 rxs
    split at post
    · rename_i kvs k' hk hk2
      obtain ⟨p, kv, rfl, hp, rk⟩ := rel.asK r1 hk
      have ek := key_rep ry1 hk2
      subst ek
      cases rx
      refine d_get2 (by omega) I (.inl ⟨kv, k', hp, rfl, rfl⟩) rv1 rv2 fun w' s' I' r' => ⟨_, H, I', r', post.now rel ?_⟩
      rcases rk.lk k' with ⟨l1, l2⟩ | ⟨d0, v0, l1, l2, r0⟩
      · rw [l1, l2]; exact ry2
      · rw [l1, l2]; exact r0
    · exact post.elim
  · exact post.elim
theorem md_copy {m : Bool} : MthD X A "dict.copy" (copyD m) := by
  intro pins s σ H x xs v us Q I rx rxs h
  obtain ⟨F, ρ, S, d, ds, rel, r1, rs, post⟩ := h
  unfold copyD at post
  split at post
  · rename_i kvs hk
    cases rs
    cases rxs
    obtain ⟨p, kv, rfl, hp, rk⟩ := rel.asK r1 hk
    cases rx
    obtain ⟨z, hd, vs, rv, dd⟩ := dk_rd I.hok hp
    refine call_meetsIn PySem.F.slot_dict_copy dd.typeIs PySem.F.entry_dict_copy (PySem.F.args_dict_copy_1 _) (meets_dict_copy (mixKind X.prog X.w) p hd) ⟨vs, dd, by rw [← rv.length]; exact z, fun h' d1 d2 keep => ?_⟩
    exact ⟨.ref _, _, I.laid (t' := s.toks) (o := .dK kv) keep (Nat.le_refl _) (dk_new z (beq_eq_false_iff_ne.mpr (Nat.ne_of_gt I.big)) rv d1), rfl, post.outK rel rk _ I.fresh⟩
  · exact post.elim
theorem md_keys : MthD X A "dict.keys" keysD := by
  intro pins s σ H x xs v us Q I rx rxs h
  obtain ⟨F, ρ, S, d, ds, rel, r1, rs, post⟩ := h
  unfold keysD at post
  split at post
  · rename_i kvs hk
    cases rs
    cases rxs
    obtain ⟨p, kv, rfl, hp, rk⟩ := rel.asK r1 hk
    cases rx
    obtain ⟨z, hd, vs, rv, dd⟩ := dk_rd I.hok hp
    refine call_meetsIn PySem.F.slot_dict_keys dd.typeIs PySem.F.entry_dict_keys (PySem.F.args_dict_keys_1 _) (PySem.W.kdl_meets_keys (mixKind X.prog X.w) p hd) ⟨⟨vs, dd⟩, ?_⟩
    have old : ∀ b o, s.heap.get? b = some o → (s.heap.push { cls := .type "dict_keys", data := .fields #[.ref p] }).get? b = some o := fun b o e => Heap.get?_push_of_some _ e
    have at_ : (s.heap.push { cls := .type "dict_keys", data := .fields #[.ref p] }).get? s.heap.objs.size = some { cls := .type "dict_keys", data := .fields #[.ref p] } := Heap.get?_push_size _ rfl
    refine ⟨.ref s.heap.objs.size, upd H s.heap.objs.size (VwH s.heap.objs.size p), I.laid (t' := s.toks) old (Nat.le_refl _) ⟨⟨_, at_, rfl, rfl⟩, ⟨_, at_⟩, fun h1 h2 ⟨o, e, k⟩ kp => ⟨o, kp o e, k⟩⟩, rfl, ?_⟩
    obtain ⟨rel2, ex⟩ := rel.new (o := VwH s.heap.objs.size p) I.fresh
    exact post _ _ _ _ ex rel2 (.keys upd_same (r1.mono ex))
  · exact post.elim
theorem md_dpop : MthD X A "dict.pop" dpopD := by
  intro pins s σ H x xs v us Q I rx rxs h
  obtain ⟨F, ρ, S, d, ds, rel, r1, rs, post⟩ := h
  unfold dpopD at post
  split at post
  · rename_i n ls y hc
    obtain ⟨p, vs, rfl, h1, h2, h3, h4, h5⟩ := rel.cellK r1 hc
    obtain ⟨z, rfl, rz⟩ := reps1 rs
    obtain ⟨u, rfl, ru⟩ := vals1 rxs
    cases rx
    split at post
    · rename_i k hk
      have ek := key_rep rz hk
      subst ek
      rcases h4.lk k with ⟨l1, l2⟩ | ⟨d0, v0, l1, l2, r0⟩
      · rw [l1] at post; exact post.elim
      · rw [l1] at post
        exact d_pop I h3 ru l2 (.inl rfl) fun w' s' I' r' => ⟨v0, _, I', r', post F ρ _ _ (Ext.refl _ _) (h5 _ _ (h4.drop k)) r0⟩
    · exact post.elim
  · exact post.elim
end
end Dee

set_option maxRecDepth 100000
set_option maxHeartbeats 4000000
namespace Dee
open PySem PySem.Spec L2
/-! ### statements -/
abbrev MS := Dn → Store → SOut
def PostS (T : Tab) (W : WX) (F : Hp) (ρ : List Addr) (D : Ends) : SOut → Prop
  | .nx δ S => ∀ F' ρ' σ' H', Ext F ρ F' ρ' → Rel T F' ρ' S H' → EnvR T F' ρ' δ σ' → D.nx σ' H'
  | .rt d S => ∀ F' ρ' H' v, Ext F ρ F' ρ' → Rel T F' ρ' S H' → Rep T F' ρ' d v → D.rt v H'
  | .bk δ S => ∀ F' ρ' σ' H', Ext F ρ F' ρ' → Rel T F' ρ' S H' → EnvR T F' ρ' δ σ' → D.bk σ' H'
  | .ct δ S => ∀ F' ρ' σ' H', Ext F ρ F' ρ' → Rel T F' ρ' S H' → EnvR T F' ρ' δ σ' → D.ct σ' H'
  | .exn c fs δ S => ∀ F' ρ' σ' H' cl dd, Ext F ρ F' ρ' → Rel T F' ρ' S H' → EnvR T F' ρ' δ σ' → ExcR T F' ρ' c fs cl dd → W cl dd σ' H'
  | .bad => False
theorem PostS.mono {T : Tab} {W : WX} {F F' : Hp} {ρ ρ' : List Addr} {D : Ends} {o : SOut} (h : PostS T W F ρ D o) (x : Ext F ρ F' ρ') : PostS T W F' ρ' D o := by
  cases o with
  | nx δ S => exact fun F2 ρ2 s2 H2 x2 => h F2 ρ2 s2 H2 (x.trans x2)
  | rt δ S => exact fun F2 ρ2 s2 H2 x2 => h F2 ρ2 s2 H2 (x.trans x2)
  | bk δ S => exact fun F2 ρ2 s2 H2 x2 => h F2 ρ2 s2 H2 (x.trans x2)
  | ct δ S => exact fun F2 ρ2 s2 H2 x2 => h F2 ρ2 s2 H2 (x.trans x2)
  | exn c fs δ S => exact fun F2 ρ2 s2 H2 cl dd x2 => h F2 ρ2 s2 H2 cl dd (x.trans x2)
  | bad => exact h
theorem PostS.ends {T : Tab} {W : WX} {F : Hp} {ρ : List Addr} {D D' : Ends} {o : SOut} (h : PostS T W F ρ D o) (i1 : ∀ σ H, D.nx σ H → D'.nx σ H) (i2 : ∀ v H, D.rt v H → D'.rt v H) (i3 : ∀ σ H, D.bk σ H → D'.bk σ H) (i4 : ∀ σ H, D.ct σ H → D'.ct σ H) : PostS T W F ρ D' o := by
  cases o with
  | nx δ S => exact fun F2 ρ2 s2 H2 x2 a b => i1 _ _ (h F2 ρ2 s2 H2 x2 a b)
  | rt δ S => exact fun F2 ρ2 s2 H2 x2 a b => i2 _ _ (h F2 ρ2 s2 H2 x2 a b)
  | bk δ S => exact fun F2 ρ2 s2 H2 x2 a b => i3 _ _ (h F2 ρ2 s2 H2 x2 a b)
  | ct δ S => exact fun F2 ρ2 s2 H2 x2 a b => i4 _ _ (h F2 ρ2 s2 H2 x2 a b)
  | exn c fs δ S => exact h
  | bad => exact h
def tS (T : Tab) (W : WX) (m : MS) : TS := fun D σ H => ∃ F ρ δ S, Rel T F ρ S H ∧ EnvR T F ρ δ σ ∧ PostS T W F ρ D (m δ S)
def SS (X : Cx) (A : AP) (W : WX) (st : Stmt) (m : MS) : Prop := PS X st (tS (tb X A) W m)
def SSs (X : Cx) (A : AP) (W : WX) (st : List Stmt) (m : MS) : Prop := PSs X st (tS (tb X A) W m)
theorem PS.imp {X : Cx} {e : Stmt} {t t' : TS} (h : PS X e t) (i : ∀ D σ H, t' D σ H → t D σ H) : PS X e t' := ⟨fun pins s σ H Q I q => h.run pins s σ H Q I (i _ _ _ q)⟩
theorem PSs.imp {X : Cx} {e : List Stmt} {t t' : TS} (h : PSs X e t) (i : ∀ D σ H, t' D σ H → t D σ H) : PSs X e t' := ⟨fun pins s σ H Q I q => h.run pins s σ H Q I (i _ _ _ q)⟩
/-- an expression's answer, used by a statement -/
def Out.then {α : Type} (o : Out α) (δ : Dn) (k : α → Store → SOut) : SOut := match o with
  | .ok a S => k a S
  | .exn c fs S => .exn c fs δ S
  | .bad => .bad
@[simp] theorem then_ok {α : Type} (a : α) (S : Store) (δ : Dn) (k : α → Store → SOut) : (Out.ok a S).then δ k = k a S := (rfl)
@[simp] theorem then_exn {α : Type} (c : Str) (fs : List (Str × D)) (S : Store) (δ : Dn) (k : α → Store → SOut) : (Out.exn c fs S : Out α).then δ k = .exn c fs δ S := (rfl)
@[simp] theorem then_bad {α : Type} (δ : Dn) (k : α → Store → SOut) : (Out.bad : Out α).then δ k = .bad := (rfl)
/-- one statement behind another -/
def SOut.seq (o : SOut) (k : MS) : SOut := match o with
  | .nx δ S => k δ S
  | o => o
@[simp] theorem seq_nx (δ : Dn) (S : Store) (k : MS) : (SOut.nx δ S).seq k = k δ S := (rfl)
@[simp] theorem seq_rt (d : D) (S : Store) (k : MS) : (SOut.rt d S).seq k = .rt d S := (rfl)
@[simp] theorem seq_bk (δ : Dn) (S : Store) (k : MS) : (SOut.bk δ S).seq k = .bk δ S := (rfl)
@[simp] theorem seq_ct (δ : Dn) (S : Store) (k : MS) : (SOut.ct δ S).seq k = .ct δ S := (rfl)
@[simp] theorem seq_exn (c : Str) (fs : List (Str × D)) (δ : Dn) (S : Store) (k : MS) : (SOut.exn c fs δ S).seq k = .exn c fs δ S := (rfl)
@[simp] theorem seq_bad (k : MS) : SOut.bad.seq k = .bad := (rfl)
theorem stepS {α β : Type} {R1 : Hp → List Addr → α → β → Prop} {T : Tab} {W : WX} {σ : St} {F H : Hp} {ρ : List Addr} {δ : Dn} {S : Store} {D : Ends} {m : Dn → Store → Out α} {k : α → Store → SOut}
    (rel : Rel T F ρ S H) (env : EnvR T F ρ δ σ) (post : PostS T W F ρ D ((m δ S).then δ k)) :
    tM R1 T W m σ H (fun b H1 => ∃ F' ρ' S' a, Ext F ρ F' ρ' ∧ Rel T F' ρ' S' H1 ∧ EnvR T F' ρ' δ σ ∧ R1 F' ρ' a b ∧ PostS T W F' ρ' D (k a S')) := by
  refine ⟨F, ρ, δ, S, rel, env, ?_⟩
  cases h : m δ S with
  | ok a S1 =>
    rw [h] at post
    exact fun F' ρ' H' b x r q => ⟨F', ρ', S1, a, x, r, env.mono x, q, post.mono x⟩
  | exn c fs S1 =>
    rw [h] at post
    exact fun F' ρ' H' cl dd x r q => post F' ρ' σ H' cl dd x r (env.mono x) q
  | bad => rw [h] at post; exact post
def mNil : MS := fun δ S => .nx δ S
def mSeq (a b : MS) : MS := fun δ S => (a δ S).seq b
def mEx (a : ME) : MS := fun δ S => (a δ S).then δ fun _ S1 => .nx δ S1
def mRt (a : ME) : MS := fun δ S => (a δ S).then δ fun d S1 => .rt d S1
def mRtN : MS := fun _ S => .rt .non S
def mBk : MS := fun δ S => .bk δ S
def mCt : MS := fun δ S => .ct δ S
def mIfS (t : MT) (a b : MS) : MS := fun δ S => (t δ S).then δ fun k S1 => if k = true then a δ S1 else b δ S1
abbrev MG := D → Dn → Store → Option Dn
def mAsg (a : ME) (g : MG) : MS := fun δ S => (a δ S).then δ fun d S1 => match g d δ S1 with
  | some δ' => .nx δ' S1
  | none => .bad
section
variable {X : Cx} {A : AP} {W : WX} {st : Stmt} {sts : List Stmt} {m n : MS} {e : Expr} {me : ME} {mt : MT} {pos : Pos}
theorem ss_nil : SSs X A W [] mNil := PSs.imp pss_nil fun D σ H ⟨F, ρ, δ, S, rel, env, post⟩ => post F ρ σ H (Ext.refl _ _) rel env
theorem seq_of {T : Tab} {D : Ends} {σ : St} {H : Hp} (h : tS T W (mSeq m n) D σ H) : tSeq (tS T W m) (tS T W n) D σ H := by
  obtain ⟨F, ρ, δ, S, rel, env, post⟩ := h
  refine ⟨F, ρ, δ, S, rel, env, ?_⟩
  unfold mSeq at post
  revert post
  cases m δ S with
  | nx δ1 S1 => exact fun p F1 ρ1 σ1 H1 x1 rel1 env1 => ⟨F1, ρ1, δ1, S1, rel1, env1, PostS.mono p x1⟩
  | rt d S1 => exact fun p => p
  | bk δ1 S1 => exact fun p => p
  | ct δ1 S1 => exact fun p => p
  | exn c fs δ1 S1 => exact fun p => p
  | bad => exact fun p => p
theorem ss_cons (h1 : SS X A W st m) (h2 : SSs X A W sts n) : SSs X A W (st :: sts) (mSeq m n) := PSs.imp (pss_cons h1 h2) fun D σ H h => seq_of h
theorem ss_one (h1 : SS X A W st m) : SSs X A W [st] m := pss_one h1
theorem ss_pass : SS X A W (.Pass pos) mNil := PS.imp ps_pass fun D σ H ⟨F, ρ, δ, S, rel, env, post⟩ => post F ρ σ H (Ext.refl _ _) rel env
theorem ss_break : SS X A W (.Break pos) mBk := PS.imp ps_break fun D σ H ⟨F, ρ, δ, S, rel, env, post⟩ => post F ρ σ H (Ext.refl _ _) rel env
theorem ss_continue : SS X A W (.Continue pos) mCt := PS.imp ps_continue fun D σ H ⟨F, ρ, δ, S, rel, env, post⟩ => post F ρ σ H (Ext.refl _ _) rel env
theorem ss_doc {x j pos pos'} : SS X A W (.Expr (.Constant (.str x) j pos) pos') mNil := PS.imp ps_doc fun D σ H ⟨F, ρ, δ, S, rel, env, post⟩ => post F ρ σ H (Ext.refl _ _) rel env
theorem ss_expr (h : SE X A W e me) (hs : swapsWith e none pos.line X.env = pure false := by rfl) : SS X A W (.Expr e pos) (mEx me) := PS.imp (ps_expr h hs) fun D σ H ⟨F, ρ, δ, S, rel, env, post⟩ =>
  (stepS (R1 := RD (tb X A)) rel env post).mono fun x H1 ⟨F1, ρ1, S1, d1, x1, rel1, env1, q1, p1⟩ => p1 F1 ρ1 σ H1 (Ext.refl _ _) rel1 env1
theorem ss_ret (h : SE X A W e me) : SS X A W (.Return (some e) pos) (mRt me) := PS.imp (ps_ret h) fun D σ H ⟨F, ρ, δ, S, rel, env, post⟩ =>
  (stepS (R1 := RD (tb X A)) rel env post).mono fun x H1 ⟨F1, ρ1, S1, d1, x1, rel1, env1, q1, p1⟩ => p1 F1 ρ1 H1 x (Ext.refl _ _) rel1 q1
theorem ss_retN : SS X A W (.Return none pos) mRtN := PS.imp ps_retN fun D σ H ⟨F, ρ, δ, S, rel, env, post⟩ => post F ρ H .non (Ext.refl _ _) rel .non
theorem ss_if {c : Expr} {a b : List Stmt} (hc : ST X A W c mt) (ha : SSs X A W a m) (hb : SSs X A W b n) : SS X A W (.If c a b pos) (mIfS mt m n) := PS.imp (ps_if hc ha hb) fun D σ H ⟨F, ρ, δ, S, rel, env, post⟩ =>
  (stepS (R1 := RB) rel env post).mono fun k H1 ⟨F1, ρ1, S1, d1, x1, rel1, env1, q1, p1⟩ => by
    subst q1
    cases d1 with
    | true => exact ⟨F1, ρ1, δ, S1, rel1, env1, p1⟩
    | false => exact ⟨F1, ρ1, δ, S1, rel1, env1, p1⟩
/-! ### targets -/
def tG (T : Tab) (g : MG) : TG := fun v σ H Q => ∃ F ρ δ S d, Rel T F ρ S H ∧ EnvR T F ρ δ σ ∧ Rep T F ρ d v ∧ ∃ δ', g d δ S = some δ' ∧ ∀ σ', EnvR T F ρ δ' σ' → Q σ' H
def SG (X : Cx) (A : AP) (e : Expr) (g : MG) : Prop := PG X e (tG (tb X A) g)
theorem PG.imp {X : Cx} {e : Expr} {t t' : TG} (h : PG X e t) (i : ∀ v σ H Q, t' v σ H Q → t v σ H Q) : PG X e t' := ⟨fun pins s σ H v u Q I r q => h.run pins s σ H v u Q I r (i _ _ _ _ q)⟩
def gVar (i : Nat) : MG := fun d δ _ => some (δ.set i (some d))
theorem sg_name {i : Nat} {x : Str} (hN : X.N.Nodup) (hi : X.N[i]? = some x := by rfl) (hx : Loc X.env.scope x := by first | exact Or.inl rfl | exact Or.inr rfl) (hf : X.fn x = true ∨ X.env.scope.names.lookup x = some .local := by first | exact .inl rfl | exact .inr rfl) : SG X A (.Name x pos) (gVar i) :=
  PG.imp (pg_name (i := i) hN hi hx hf) fun v σ H Q ⟨F, ρ, δ, S, d, rel, env, r, δ', e, q⟩ => by cases e; exact q _ (env.set r i)
def gsNil : List D → Dn → Store → Option Dn
  | [], δ, _ => some δ
  | _, _, _ => none
def gsCons (g : MG) (r : List D → Dn → Store → Option Dn) : List D → Dn → Store → Option Dn
  | d :: ds, δ, S => (g d δ S).bind fun δ' => r ds δ' S
  | _, _, _ => none
abbrev MGs := List D → Dn → Store → Option Dn
def tGs (T : Tab) (g : MGs) : TGs := fun vs σ H Q => ∃ F ρ δ S ds, Rel T F ρ S H ∧ EnvR T F ρ δ σ ∧ Reps T F ρ ds vs ∧ ∃ δ', g ds δ S = some δ' ∧ ∀ σ', EnvR T F ρ δ' σ' → Q σ' H
def SGs (X : Cx) (A : AP) (es : List Expr) (g : MGs) : Prop := PGs X es (tGs (tb X A) g)
theorem PGs.imp {X : Cx} {e : List Expr} {t t' : TGs} (h : PGs X e t) (i : ∀ v σ H Q, t' v σ H Q → t v σ H Q) : PGs X e t' := ⟨fun pins s σ H v u Q I r q => h.run pins s σ H v u Q I r (i _ _ _ _ q)⟩
theorem sgs_nil : SGs X A [] gsNil := PGs.imp pgs_nil fun v σ H Q ⟨F, ρ, δ, S, ds, rel, env, r, δ', e, q⟩ => by
  cases ds with
  | nil => cases r; cases e; exact ⟨rfl, q _ env⟩
  | cons d ds => cases e
theorem sgs_cons {es : List Expr} {g : MG} {gs : MGs} (h1 : SG X A e g) (h2 : SGs X A es gs) (hs : (assignEach (e :: es) X.env).map (·.2) = assign e X.env :: (assignEach es X.env).map (·.2) := by rfl) : SGs X A (e :: es) (gsCons g gs) :=
  PGs.imp (pgs_cons h1 h2 hs) fun v σ H Q ⟨F, ρ, δ, S, ds, rel, env, r, δ', eq, q⟩ => by
    cases r with
    | nil => cases eq
    | cons r1 rs =>
      obtain ⟨δ1, e1, e2⟩ := Option.bind_eq_some_iff.mp eq
      exact ⟨_, _, rfl, F, ρ, δ, S, _, rel, env, r1, δ1, e1, fun σ1 env1 => ⟨F, ρ, δ1, S, _, rel, env1, rs, δ', e2, q⟩⟩
def gTupD (n : Nat) (g : MGs) : MG := fun d δ S => match d with
  | .tup ds => if ds.length = n then g ds δ S else none
  | _ => none
theorem sg_tup {es : List Expr} {k n : Nat} {g : MGs} (hc : X.calm = true) (h : SGs X A es g) (hn : (assignEach es X.env).length = n := by rfl) (hst : (assignEach es X.env).findIdx? (·.1) = none := by rfl) : SG X A (.Tuple es k pos) (gTupD n g) :=
  PG.imp (pg_tup (n := n) hc h hn hst) fun v σ H Q ⟨F, ρ, δ, S, d, rel, env, r, δ', e, q⟩ => by
    unfold gTupD at e
    split at e
    · split at e
      · rename_i hl
        obtain ⟨p, vs, rfl, hs, rs⟩ := sqT_sub rel r
        exact ⟨p, vs, rfl, hs, by rw [← rs.len]; exact hl, F, ρ, δ, S, _, rel, env, rs, δ', e, q⟩
      · cases e
    · cases e
theorem ss_asg {tg : Expr} {g : MG} (he : SE X A W e me) (hg : SG X A tg g) (hs : swapsWithSole [tg] e pos.line X.env = pure false := by rfl) (hw : swappedStores [tg] e X.env = pure none := by rfl)
    (h1 : (assignEach [tg] X.env).map (·.2) = [assign tg X.env] := by rfl) : SS X A W (.Assign [tg] e pos) (mAsg me g) := PS.imp (ps_asg he hg hs hw h1) fun D σ H ⟨F, ρ, δ, S, rel, env, post⟩ =>
  (stepS (R1 := RD (tb X A)) rel env post).mono fun x H1 ⟨F1, ρ1, S1, d1, x1, rel1, env1, q1, p1⟩ => by
    cases hg : g d1 δ S1 with
    | none => rw [hg] at p1; exact p1.elim
    | some δ' => rw [hg] at p1; exact ⟨F1, ρ1, δ, S1, d1, rel1, env1, q1, δ', hg, fun σ' env' => p1 F1 ρ1 σ' H1 (Ext.refl _ _) rel1 env'⟩
theorem ss_set {i : Nat} {x : Str} {pos' : Pos} (hN : X.N.Nodup) (he : SE X A W e me) (hi : X.N[i]? = some x := by rfl) (hx : Loc X.env.scope x := by first | exact Or.inl rfl | exact Or.inr rfl) (hs : swapsWith e (some (.Name x pos')) pos.line X.env = pure false := by rfl)
    (hf : X.fn x = true ∨ X.env.scope.names.lookup x = some .local := by first | exact .inl rfl | exact .inr rfl) : SS X A W (.Assign [.Name x pos'] e pos) (mAsg me (gVar i)) := PS.imp (ps_set (i := i) hN hi hx he hs hf) fun D σ H ⟨F, ρ, δ, S, rel, env, post⟩ =>
  (stepS (R1 := RD (tb X A)) rel env post).mono fun x H1 ⟨F1, ρ1, S1, d1, x1, rel1, env1, q1, p1⟩ => p1 F1 ρ1 _ H1 (Ext.refl _ _) rel1 (env1.set q1 i)
/-- o[i] = e for a dict -/
def mPut (v o i : ME) : MS := fun δ S => (v δ S).then δ fun y S1 => (o δ S1).then δ fun d S2 => (i δ S2).then δ fun k S3 => match cellK S3 d, keyD k with
  | some (n, kvs), some k => if kvs.length < 1000000 then .nx δ (S3.set n (.dct (putL kvs k y))) else .bad
  | _, _ => .bad
theorem ss_put {o i value : Expr} {mo mi mv : ME} {pos' : Pos} (hu : X.A.units + 64 < cLine) (ho : SE X A W o mo) (hi : SE X A W i mi) (hv : SE X A W value mv) (hs : swapsWith value (some (.Subscript o i pos')) pos.line X.env = pure false := by rfl) :
    SS X A W (.Assign [.Subscript o i pos'] value pos) (mPut mv mo mi) := PS.imp (ps_dput (by omega) ho hi hv hs) fun D σ H ⟨F, ρ, δ, S, rel, env, post⟩ => by
  refine (stepS (R1 := RD (tb X A)) rel env post).mono fun x H1 ⟨F1, ρ1, S1, d1, x1, rel1, env1, q1, p1⟩ => ?_
  refine (stepS (R1 := RD (tb X A)) rel1 env1 p1).mono fun y H2 ⟨F2, ρ2, S2, d2, x2, rel2, env2, q2, p2⟩ => ?_
  refine (stepS (R1 := RD (tb X A)) rel2 env2 p2).mono fun z H3 ⟨F3, ρ3, S3, d3, x3, rel3, env3, q3, p3⟩ => ?_
  split at p3
  · rename_i n kvs k hc hk
    split at p3
    · rename_i hl
      obtain ⟨p, vs, rfl, h1, h2, h3, h4, h5⟩ := rel3.cellK (q2.mono x3) hc
      have ek := key_rep q3 hk
      subst ek
      refine ⟨p, _, rfl, .k h3 (by rw [← h4.len]; exact Nat.lt_of_lt_of_le hl (big_line (Nat.le_refl _))), ?_⟩
      exact p3 F3 ρ3 σ _ (Ext.refl _ _) (h5 _ _ (h4.put (q1.mono (x2.trans x3)))) env3
    · exact p3.elim
  · exact p3.elim
end
/-! ### loops -/
inductive ItD where
  | rng (lo : Int) (n : Nat) | at_ (d : D)
def itemsD (S : Store) (d : D) : Option (List D) := match d with
  | .str z => some (z.cps.toList.map fun c => .str ⟨#[c]⟩)
  | .keys d => (asK S d).map fun kvs => kvs.map fun kv => kD kv.1
  | d => asQ S d
def nxtD (S : Store) (i : Nat) : ItD → Option (Option D)
  | .rng lo n => some (if i < n then some (.int (lo + i)) else none)
  | .at_ d => (itemsD S d).map (·[i]?)
def RI (T : Tab) (F : Hp) (ρ : List Addr) (it : ItD) (J : It) : Prop := match it with
  | .rng lo n => J = Itr lo n
  | .at_ d => match d with
    | .str z => J = Its z
    | .tup ds => ∃ p, J = Itt T.K p ∧ Rep T F ρ (.tup ds) (.ref p)
    | .keys d => ∃ p o kvs kv, d = .dct kvs ∧ J = Itk p o kv ∧ F p = some (.frz o (.dK kv)) ∧ RepK T F ρ kvs kv
    | d => ∃ p, J = Itl T.K p ∧ Rep T F ρ d (.ref p)
theorem RI.mono {T : Tab} {F F' : Hp} {ρ ρ' : List Addr} {it : ItD} {J : It} (h : RI T F ρ it J) (x : Ext F ρ F' ρ') : RI T F' ρ' it J := by
  cases it with
  | rng lo n => exact h
  | at_ d =>
    unfold RI at h ⊢
    cases d <;> first
      | exact h
      | (obtain ⟨p, o, kvs, kv, e, e1, e2, r⟩ := h; exact ⟨p, o, kvs, kv, e, e1, x.same.ex e2 (fun _ z => by cases z), r.mono x⟩)
      | (obtain ⟨p, e, r⟩ := h; exact ⟨p, e, r.mono x⟩)
def TurnOk (T : Tab) (F : Hp) (ρ : List Addr) (H : Hp) (J : It) (i : Nat) : Option D → Prop
  | none => J.stop i H
  | some d => J.go i H ∧ ∀ x H', J.yld i H x H' → H' = H ∧ Rep T F ρ d x
/-- a turn -/
theorem turn_of {T : Tab} {F H : Hp} {ρ : List Addr} {S : Store} {it : ItD} {J : It} {i : Nat} {o : Option D} (rel : Rel T F ρ S H) (h : RI T F ρ it J) (e : nxtD S i it = some o) :
    TurnOk T F ρ H J i o := by
  have lstCase : ∀ {d : D} {p : Addr} {ds : List D}, Rep T F ρ d (.ref p) → asL S d = some ds → ds[i]? = o → J = Itl T.K p → TurnOk T F ρ H J i o := fun {d p ds} r hl ho eJ => by
    subst eJ
    obtain ⟨q, vs, e1, hs, rs⟩ := rel.asL r hl
    cases e1
    cases o with
    | none => exact ⟨vs, hs, by rw [← rs.len]; exact List.getElem?_eq_none_iff.mp ho⟩
    | some y =>
      obtain ⟨v, hv, rv⟩ := rs.get ho
      refine ⟨⟨vs, v, hs, hv⟩, fun x H' ⟨e2, e3⟩ => ⟨e2, ?_⟩⟩
      have := e3 vs hs
      rw [hv] at this
      cases this
      exact rv
  cases it with
  | rng lo n =>
    have hJ : J = Itr lo n := h
    subst hJ
    simp only [nxtD, Option.some.injEq] at e
    subst e
    by_cases hi : i < n
    · rw [if_pos hi]
      exact ⟨hi, fun x H' ⟨e1, e2⟩ => ⟨e1, by rw [e2]; exact .int _⟩⟩
    · rw [if_neg hi]
      exact Nat.le_of_not_lt hi
  | at_ d =>
    simp only [nxtD, Option.map_eq_some_iff] at e
    obtain ⟨ds, e1, e2⟩ := e
    unfold itemsD at e1
    split at e1
    · rename_i z
      have hJ : J = Its z := h
      subst hJ
      cases e1
      rw [List.getElem?_map] at e2
      cases hc : z.cps.toList[i]? with
      | none =>
        rw [hc] at e2
        subst e2
        have := List.getElem?_eq_none_iff.mp hc
        rw [Array.length_toList] at this
        exact this
      | some c =>
        rw [hc] at e2
        subst e2
        have hl : i < z.cps.size := by
          have := (List.getElem?_eq_some_iff.mp hc).1
          rw [Array.length_toList] at this
          exact this
        refine ⟨hl, fun x H' ⟨e3, c', e4, e5⟩ => ⟨e3, ?_⟩⟩
        rw [← Array.getElem?_toList, hc] at e4
        cases e4
        rw [e5]
        exact .str _
    · rename_i d0
      obtain ⟨p, oo, kvs, kv, rfl, rfl, hp, rk⟩ := (show ∃ p oo kvs kv, d0 = .dct kvs ∧ J = Itk p oo kv ∧ F p = some (.frz oo (.dK kv)) ∧ RepK T F ρ kvs kv from h)
      have hp' : H p = some (.frz oo (.dK kv)) := rel.sub.ex hp (fun _ z => by cases z)
      simp only [asK_dct, Option.map_some, Option.some.injEq] at e1
      subst e1
      have hk := rep_keys rk
      cases o with
      | none => exact ⟨hp', by rw [← rk.len]; simpa using e2⟩
      | some y =>
        rw [List.getElem?_map, Option.map_eq_some_iff] at e2
        obtain ⟨⟨k, d1⟩, e3, rfl⟩ := e2
        have hl : i < kv.length := by rw [← rk.len]; exact (List.getElem?_eq_some_iff.mp e3).1
        refine ⟨⟨hp', hl⟩, fun x H' ⟨e4, k', v', e5, e6⟩ => ⟨e4, ?_⟩⟩
        have hkk := congrArg (·[i]?) rk.keys
        simp only [List.getElem?_map, e3, e5, Option.map_some, Option.some.injEq] at hkk
        rw [e6, ← hkk]
        exact rep_key k
    · unfold asQ at e1
      split at e1
      · rename_i ds0 _ _
        obtain ⟨p, hJ, r⟩ := (show ∃ p, J = Itt T.K p ∧ Rep T F ρ (.tup ds0) (.ref p) from h)
        subst hJ
        cases e1
        obtain ⟨q, vs, e3, hs, rs⟩ := sqT_sub rel r
        cases e3
        cases o with
        | none => exact ⟨vs, hs, by rw [← rs.len]; exact List.getElem?_eq_none_iff.mp e2⟩
        | some y =>
          obtain ⟨v, hv, rv⟩ := rs.get e2
          refine ⟨⟨vs, v, hs, hv⟩, fun x H' ⟨e4, e5⟩ => ⟨e4, ?_⟩⟩
          have := e5 vs hs
          rw [hv] at this
          cases this
          exact rv
      · have h' : ∃ p, J = Itl T.K p ∧ Rep T F ρ d (.ref p) := by
          unfold RI at h
          cases d <;> first
            | exact h
            | cases e1
            | (exfalso; rename_i k _ _; exact k _ rfl)
            | (exfalso; rename_i k _; exact k _ rfl)
            | (exfalso; rename_i k; exact k _ rfl)
        obtain ⟨p, hJ, r⟩ := h'
        exact lstCase r e1 e2 hJ
abbrev MI := Dn → Store → Out ItD
def tI (T : Tab) (W : WX) (m : MI) : TI := fun σ H R => ∃ F ρ δ S, Rel T F ρ S H ∧ EnvR T F ρ δ σ ∧ Post (RI T) T W σ F ρ R (m δ S)
def SI (X : Cx) (A : AP) (W : WX) (tg e : Expr) (m : MI) : Prop := PI X tg e (tI (tb X A) W m)
theorem PI.imp {X : Cx} {tg e : Expr} {t t' : TI} (h : PI X tg e t) (i : ∀ σ H R, t' σ H R → t σ H R) : PI X tg e t' := ⟨fun pins s σ H R I q => h.run pins s σ H R I (i _ _ _ q)⟩
def iRng (a : ME) : MI := fun δ S => (a δ S).bind fun d S1 => match d with
  | .int j => if -1000000000 ≤ j ∧ j < 1000000000 then .ok (.rng 0 j.toNat) S1 else .bad
  | _ => .bad
def iRng2D (a b : ME) : MI := fun δ S => (a δ S).bind fun d S1 => (b δ S1).bind fun d2 S2 => match d, d2 with
  | .int i, .int j => if (-1000000000 ≤ j ∧ j < 1000000000) ∧ -1000000000 ≤ i ∧ i < 1000000000 then .ok (.rng i (j - i).toNat) S2 else .bad
  | _, _ => .bad
/-- a text, a tuple, a list -/
def isKeys : D → Bool
  | .keys _ => true
  | _ => false
def iAt (a : ME) : MI := fun δ S => (a δ S).bind fun d S1 => if isKeys d = true then .bad else match itemsD S1 d with
  | some _ => .ok (.at_ d) S1
  | none => .bad
section
variable {X : Cx} {A : AP} {W : WX} {tg e : Expr} {me : ME} {pos : Pos}
theorem si_range1 {p : Pos} {a : Expr} {ma : ME} (ha : SE X A W a ma) (hm : X.mg "range" = none) (hg : Gl X "range" := by rfl) (hs : starEach [a] X.env = [(false, eval a X.env)] := by rfl) : SI X A W tg (.Call (.Name "range" p) [a] [] pos) (iRng ma) :=
  PI.imp (pi_range1 hg hm (sa_cons ha sa_nil hs) hs) fun σ H R ⟨F, ρ, δ, S, rel, env, post⟩ => by
    have post' : Post (RI (tb X A)) (tb X A) W σ F ρ R ((aCons ma aNil δ S).bind fun ds S1 => match ds with
      | [.int j] => if -1000000000 ≤ j ∧ j < 1000000000 then .ok (.rng 0 j.toNat) S1 else .bad
      | _ => .bad) := by
      revert post
      unfold iRng aCons aNil
      cases ma δ S with
      | ok d S1 => cases d <;> exact fun p => p
      | exn c fs S1 => exact fun p => p
      | bad => exact fun p => p
    refine (step (R1 := RA (tb X A)) rel env post').mono fun xs H1 ⟨F1, ρ1, S1, ds, x1, rel1, env1, q1, p1⟩ => ?_
    split at p1
    · rename_i j
      obtain ⟨x, rfl, r1⟩ := reps1 q1
      cases r1
      split at p1
      · rename_i hj
        exact ⟨j, rfl, by omega, by omega, p1 F1 ρ1 H1 _ (Ext.refl _ _) rel1 rfl⟩
      · exact p1.elim
    · exact p1.elim
theorem si_range2 {p : Pos} {a b : Expr} {ma mb : ME} (ha : SE X A W a ma) (hb : SE X A W b mb) (hm : X.mg "range" = none) (hg : Gl X "range" := by rfl) (hs : starEach [a, b] X.env = [(false, eval a X.env), (false, eval b X.env)] := by rfl) (hs2 : starEach [b] X.env = [(false, eval b X.env)] := by rfl) :
    SI X A W tg (.Call (.Name "range" p) [a, b] [] pos) (iRng2D ma mb) :=
  PI.imp (pi_range2 hg hm (sa_cons ha (sa_cons hb sa_nil hs2) (by rw [hs, hs2])) hs hs2) fun σ H R ⟨F, ρ, δ, S, rel, env, post⟩ => by
    have post' : Post (RI (tb X A)) (tb X A) W σ F ρ R ((aCons ma (aCons mb aNil) δ S).bind fun ds S1 => match ds with
      | [.int i, .int j] => if (-1000000000 ≤ j ∧ j < 1000000000) ∧ -1000000000 ≤ i ∧ i < 1000000000 then .ok (.rng i (j - i).toNat) S1 else .bad
      | _ => .bad) := by
      revert post
      unfold iRng2D aCons aNil
      cases ma δ S with
      | ok d S1 =>
        simp only [bind_ok]
        cases mb δ S1 with
        | ok d2 S2 => cases d <;> cases d2 <;> exact fun p => p
        | exn c fs S1 => exact fun p => p
        | bad => exact fun p => p
      | exn c fs S1 => exact fun p => p
      | bad => exact fun p => p
    refine (step (R1 := RA (tb X A)) rel env post').mono fun xs H1 ⟨F1, ρ1, S1, ds, x1, rel1, env1, q1, p1⟩ => ?_
    split at p1
    · rename_i i j
      obtain ⟨x, y, rfl, r1, r2⟩ := reps2 q1
      cases r1; cases r2
      split at p1
      · rename_i hj
        exact ⟨i, j, rfl, ⟨by omega, by omega, by omega, by omega⟩, p1 F1 ρ1 H1 _ (Ext.refl _ _) rel1 rfl⟩
      · exact p1.elim
    · exact p1.elim
end
end Dee

set_option maxRecDepth 100000
set_option maxHeartbeats 4000000
namespace Dee
open PySem PySem.Spec L2
/-! ### for -/
def forN (it : ItD) (g : MG) (b : MS) : Nat → Nat → Dn → Store → SOut
  | 0, _, _, _ => .bad
  | f + 1, i, δ, S => match nxtD S i it with
    | none => .bad
    | some none => .nx δ S
    | some (some x) => match g x δ S with
      | none => .bad
      | some δ1 => match b δ1 S with
        | .nx δ2 S2 => forN it g b f (i + 1) δ2 S2
        | .ct δ2 S2 => forN it g b f (i + 1) δ2 S2
        | .bk δ2 S2 => .nx δ2 S2
        | .rt d S2 => .rt d S2
        | .exn c fs δ2 S2 => .exn c fs δ2 S2
        | .bad => .bad
def cntD (S : Store) : ItD → Nat
  | .rng _ n => n + 1
  | .at_ d => match itemsD S d with
    | some ds => ds.length + 1
    | none => 0
def mFor (mi : MI) (g : MG) (b : MS) : MS := fun δ S => (mi δ S).then δ fun it S1 => forN it g b (cntD S1 it) 0 δ S1
theorem for_of {T : Tab} {W : WX} {mi : MI} {g : MG} {b : MS} {D : Ends} {σ : St} {H : Hp} (h : tS T W (mFor mi g b) D σ H) : tFor (tI T W mi) (tG T g) (tS T W b) D σ H := by
  obtain ⟨F, ρ, δ, S, rel, env, post⟩ := h
  refine ⟨F, ρ, δ, S, rel, env, ?_⟩
  unfold mFor at post
  revert post
  cases mi δ S with
  | bad => exact fun p => p
  | exn c fs S1 => exact fun p F' ρ' H' cl dd x r q => p F' ρ' σ H' cl dd x r (env.mono x) q
  | ok it S1 =>
    intro p F1 ρ1 H1 J x1 rel1 q1
    have p1 : PostS T W F1 ρ1 D (forN it g b (cntD S1 it) 0 δ S1) := PostS.mono p x1
    refine ⟨fun i m σ H => ∃ F ρ δ S, Rel T F ρ S H ∧ EnvR T F ρ δ σ ∧ RI T F ρ it J ∧ PostS T W F ρ D (forN it g b m i δ S), ⟨_, F1, ρ1, δ, S1, rel1, env.mono x1, q1, p1⟩, ?_⟩
    rintro i m σ2 H2 ⟨F2, ρ2, δ2, S2, rel2, env2, ri2, p2⟩
    cases m with
    | zero => exact p2.elim
    | succ f =>
      unfold forN at p2
      cases hn : nxtD S2 i it with
      | none => rw [hn] at p2; exact p2.elim
      | some o =>
        have tn := turn_of rel2 ri2 hn
        rw [hn] at p2
        cases o with
        | none => exact .inl ⟨tn, p2 F2 ρ2 σ2 H2 (Ext.refl _ _) rel2 env2⟩
        | some x =>
          refine .inr ⟨tn.1, fun σ' H' => ∃ F ρ δ S, Rel T F ρ S H' ∧ EnvR T F ρ δ σ' ∧ RI T F ρ it J ∧ PostS T W F ρ D (forN it g b f (i + 1) δ S), fun σ' H' q => ⟨f, Nat.lt_succ_self f, q⟩, fun y H' hy => ?_⟩
          obtain ⟨rfl, ry⟩ := tn.2 y H' hy
          dsimp only at p2
          cases hg : g x δ2 S2 with
          | none => rw [hg] at p2; exact p2.elim
          | some δ3 =>
            rw [hg] at p2
            refine ⟨F2, ρ2, δ2, S2, x, rel2, env2, ry, δ3, hg, fun σ3 env3 => ⟨F2, ρ2, δ3, S2, rel2, env3, ?_⟩⟩
            dsimp only at p2
            revert p2
            cases b δ3 S2 with
            | nx δ4 S4 => exact fun p F' ρ' σ' H' x' r' e' => ⟨F', ρ', δ4, S4, r', e', ri2.mono x', PostS.mono p x'⟩
            | ct δ4 S4 => exact fun p F' ρ' σ' H' x' r' e' => ⟨F', ρ', δ4, S4, r', e', ri2.mono x', PostS.mono p x'⟩
            | bk δ4 S4 => exact fun p => p
            | rt d S4 => exact fun p => p
            | exn c fs δ4 S4 => exact fun p => p
            | bad => exact fun p => p
/-! ### while -/
def whileN (c : MT) (b : MS) : Nat → Dn → Store → SOut
  | 0, _, _ => .bad
  | f + 1, δ, S => (c δ S).then δ fun k S1 => if k = true then match b δ S1 with
      | .nx δ2 S2 => whileN c b f δ2 S2
      | .ct δ2 S2 => whileN c b f δ2 S2
      | .bk δ2 S2 => .nx δ2 S2
      | .rt d S2 => .rt d S2
      | .exn e fs δ2 S2 => .exn e fs δ2 S2
      | .bad => .bad
    else .nx δ S1
open Classical in
noncomputable def mWhile (c : MT) (b : MS) : MS := fun δ S => if h : ∃ n, whileN c b n δ S ≠ .bad then whileN c b h.choose δ S else .bad
theorem while_of {T : Tab} {W : WX} {c : MT} {b : MS} {D : Ends} {σ : St} {H : Hp} (h : tS T W (mWhile c b) D σ H) : tWhile (tM RB T W c) (tS T W b) D σ H := by
  obtain ⟨F, ρ, δ, S, rel, env, post⟩ := h
  have ⟨n, p0⟩ : ∃ n, PostS T W F ρ D (whileN c b n δ S) := by
    unfold mWhile at post
    split at post
    · exact ⟨_, post⟩
    · exact post.elim
  refine ⟨fun m σ H => ∃ F ρ δ S, Rel T F ρ S H ∧ EnvR T F ρ δ σ ∧ PostS T W F ρ D (whileN c b m δ S), ⟨n, F, ρ, δ, S, rel, env, p0⟩, ?_⟩
  rintro m σ2 H2 ⟨F2, ρ2, δ2, S2, rel2, env2, p2⟩
  cases m with
  | zero => exact p2.elim
  | succ f =>
    unfold whileN at p2
    refine (stepS (R1 := RB) rel2 env2 p2).mono fun k H3 ⟨F3, ρ3, S3, k', x3, rel3, env3, e3, p3⟩ => ?_
    subst e3
    cases k' with
    | false => exact p3 F3 ρ3 σ2 H3 (Ext.refl _ _) rel3 env3
    | true =>
      rw [if_pos rfl] at p3 ⊢
      refine ⟨fun σ' H' => ∃ F ρ δ S, Rel T F ρ S H' ∧ EnvR T F ρ δ σ' ∧ PostS T W F ρ D (whileN c b f δ S), fun σ' H' q => ⟨f, Nat.lt_succ_self f, q⟩, F3, ρ3, δ2, S3, rel3, env3, ?_⟩
      revert p3
      cases b δ2 S3 with
      | nx δ4 S4 => exact fun p F' ρ' σ' H' x' r' e' => ⟨F', ρ', δ4, S4, r', e', PostS.mono p x'⟩
      | ct δ4 S4 => exact fun p F' ρ' σ' H' x' r' e' => ⟨F', ρ', δ4, S4, r', e', PostS.mono p x'⟩
      | bk δ4 S4 => exact fun p => p
      | rt d S4 => exact fun p => p
      | exn e fs δ4 S4 => exact fun p => p
      | bad => exact fun p => p
/-- more turns answer the same -/
theorem whileN_more {c : MT} {b : MS} : ∀ {n : Nat} {δ : Dn} {S : Store} (k : Nat), whileN c b n δ S ≠ .bad → whileN c b (n + k) δ S = whileN c b n δ S
  | 0, _, _, _, h => absurd rfl h
  | n + 1, δ, S, k, h => by
    rw [Nat.add_right_comm]
    unfold whileN at h ⊢
    cases hc : c δ S with
    | bad => rfl
    | exn e fs S1 => rfl
    | ok t S1 =>
      rw [hc] at h
      simp only [then_ok] at h ⊢
      cases t with
      | false => rfl
      | true =>
        simp only [if_true] at h ⊢
        cases hb : b δ S1 with
        | nx δ2 S2 => rw [hb] at h; exact whileN_more k h
        | ct δ2 S2 => rw [hb] at h; exact whileN_more k h
        | bk δ4 S4 => rfl
        | rt d S4 => rfl
        | exn e fs δ4 S4 => rfl
        | bad => rfl
theorem mWhile_eq {c : MT} {b : MS} {n : Nat} {δ : Dn} {S : Store} (h : whileN c b n δ S ≠ .bad) : mWhile c b δ S = whileN c b n δ S := by
  unfold mWhile
  have ex : ∃ n, whileN c b n δ S ≠ .bad := ⟨n, h⟩
  rw [dif_pos ex]
  have h2 := ex.choose_spec
  generalize ex.choose = m at h2
  rcases Nat.le_total m n with hl | hl
  · obtain ⟨k, rfl⟩ := Nat.exists_eq_add_of_le hl
    exact (whileN_more k h2).symm
  · obtain ⟨k, rfl⟩ := Nat.exists_eq_add_of_le hl
    exact whileN_more k h
section
variable {X : Cx} {A : AP} {W : WX} {tg e : Expr} {me : ME} {pos : Pos}
theorem ss_for {iter : Expr} {body : List Stmt} {mi : MI} {g : MG} {b : MS} (hp : PassesOwn (model X.prog X.w) X.A X.env X.xe) (hc : X.calm = true) (hi : SI X A W tg iter mi) (hg : SG X A tg g) (hb : SSs X A W body b)
    (hs : ∀ x, foldedSetIterable iter X.env x = pure x := by intro _; rfl) : SS X A W (.For tg iter body [] pos) (mFor mi g b) := PS.imp (ps_for hp hc hi hg hb hs) fun D σ H h => for_of h
theorem ss_while {c : Expr} {body : List Stmt} {mc : MT} {b : MS} (hp : PassesOwn (model X.prog X.w) X.A X.env X.xe) (hc : ST X A W c mc) (hb : SSs X A W body b) : SS X A W (.While c body [] pos) (mWhile mc b) := PS.imp (ps_while hp hc hb) fun D σ H h => while_of h
/-- a text, a tuple, a list is walked -/
theorem si_at (h : SE X A W e me) : SI X A W tg e (iAt me) := by
  refine ⟨fun pins s σ H R I ⟨F, ρ, δ, S, rel, env, post⟩ => ?_⟩
  refine thn (h.run pins s σ H _ I (step (R1 := RD (tb X A)) rel env post)) fun v s1 ⟨x, H1, I1, r1, F1, ρ1, S1, d1, x1, rel1, env1, q1, p1⟩ => ?_
  have lstCase : ∀ {ds : List D}, asL S1 d1 = some ds → (∀ p, Rep (tb X A) F1 ρ1 d1 (.ref p) → RI (tb X A) F1 ρ1 (.at_ d1) (Itl X.K p)) → Post (RI (tb X A)) (tb X A) W σ F1 ρ1 R (.ok (.at_ d1) S1) → wpAny (model X.prog X.w) X.A (pyIter v) (PIE X pins σ tg R) X.xe s1 := fun {ds} hl hr p1 => by
    obtain ⟨p, vs, rfl, hs, rs⟩ := rel1.asL q1 hl
    cases r1
    obtain ⟨its, rv, pl, hz⟩ := I1.list hs
    refine wpAny_pyIter_list pl.isList ⟨s1.heap.objs.size, [s1.heap.objs.size], _, Itl X.K p, H1, rfl, I1.kept (t' := s1.toks) fun b o z => Heap.get?_push_of_some _ z, turn_list p _, ⟨_, Heap.get?_push_size _ rfl, rfl, rfl⟩, fun b hb => ?_, p1 F1 ρ1 H1 _ (Ext.refl _ _) rel1 (hr p q1)⟩
    rw [List.mem_singleton.mp hb]
    exact I1.fpOk (Nat.le_refl _) I1.fresh
  by_cases hk : isKeys d1 = true
  · rw [if_pos hk] at p1; exact p1.elim
  rw [if_neg hk] at p1
  unfold itemsD at p1
  split at p1
  · rename_i ds hd
    split at hd
    · rename_i z
      cases q1
      obtain ⟨t, rfl⟩ := r1
      have q := p1 F1 ρ1 H1 (Its z) (Ext.refl _ _) rel1 rfl
      cases ha : z.cps.all (· < 128)
      · exact wpAny_pyIter_wide ha (pi_one (tk := s1.toks) I1 _ (turn_str _ z t "str_iterator" (.inr rfl)) ⟨_, Heap.get?_push_size _ rfl, rfl, rfl⟩ q)
      · exact wpAny_pyIter_ascii ha (pi_one (tk := s1.toks) I1 _ (turn_str _ z t "str_ascii_iterator" (.inl rfl)) ⟨_, Heap.get?_push_size _ rfl, rfl, rfl⟩ q)
    · exact absurd rfl hk
    · unfold asQ at hd
      split at hd
      · rename_i ds0 _ _
        obtain ⟨p, vs, rfl, hs, rs⟩ := sqT_sub rel1 q1
        cases r1
        obtain ⟨its, rv, pl, hz⟩ := I1.tuple hs
        refine wpAny_pyIter_tuple (show s1.heap.IsTuple p its.toArray from pl) ⟨s1.heap.objs.size, [s1.heap.objs.size], _, Itt X.K p, H1, rfl, I1.kept (t' := s1.toks) fun b o z => Heap.get?_push_of_some _ z, turn_tuple p _, ⟨_, Heap.get?_push_size _ rfl, rfl, rfl⟩, fun b hb => ?_, p1 F1 ρ1 H1 _ (Ext.refl _ _) rel1 ⟨p, rfl, q1⟩⟩
        rw [List.mem_singleton.mp hb]
        exact I1.fpOk (Nat.le_refl _) I1.fresh
      · refine lstCase hd (fun p r => ?_) p1
        unfold RI
        cases d1 <;> first
          | exact ⟨p, rfl, r⟩
          | cases hd
          | (exfalso; rename_i k _ _; exact k _ rfl)
          | (exfalso; rename_i k _; exact k _ rfl)
          | (exfalso; rename_i k; exact k _ rfl)
  · exact p1.elim
end
/-! ### [.. for .. in ..] -/
inductive TgS where
  | one (i : Nat) | tup (is : List Nat)
def gsOf : List Nat → MGs
  | [] => gsNil
  | i :: r => gsCons (gVar i) (gsOf r)
def ggOf : List Nat → TGs
  | [] => gNil
  | i :: r => gCons (gName i) (ggOf r)
def TgS.g : TgS → MG
  | .one i => gVar i
  | .tup is => gTupD is.length (gsOf is)
def TgS.tg (K : PySem.W.Frag) : TgS → TG
  | .one i => gName i
  | .tup is => gTup K is.length (ggOf is)
def TgS.sl : TgS → List Nat
  | .one i => [i]
  | .tup is => is
theorem wipe_set {σ : St} {i : Nat} {x : Option V} : ∀ {vs : List Nat}, i ∈ vs → wipe (σ.set i x) vs = wipe σ vs
  | [], h => by cases h
  | v :: vs, h => by
    unfold wipe
    by_cases hv : i ∈ vs
    · rw [wipe_set hv]
    · have hi : i = v := (List.mem_cons.mp h).resolve_right hv
      subst hi
      have gen : ∀ {ws : List Nat}, i ∉ ws → (wipe (σ.set i x) ws).set i none = (wipe σ ws).set i none := fun {ws} hw => by
        induction ws with
        | nil => show (σ.set i x).set i none = σ.set i none; rw [List.set_set]
        | cons w ws ih =>
          rw [List.mem_cons, not_or] at hw
          show ((wipe (σ.set i x) ws).set w none).set i none = ((wipe σ ws).set w none).set i none
          rw [List.set_comm _ _ (Ne.symm hw.1), ih hw.2, List.set_comm _ _ hw.1]
      exact gen hv
theorem wipe_in {σ : St} {i : Nat} : ∀ {vs : List Nat}, i ∈ vs → i < σ.length → (wipe σ vs)[i]? = some none
  | [], h, _ => by cases h
  | v :: vs, h, hl => by
    unfold wipe
    by_cases hi : v = i
    · subst hi; exact List.getElem?_set_self (by rw [wipe_length]; exact hl)
    · rw [List.getElem?_set_ne hi]
      exact wipe_in ((List.mem_cons.mp h).resolve_left fun z => hi z.symm) hl
theorem wipe_wipe (σ : St) (vs : List Nat) : wipe (wipe σ vs) vs = wipe σ vs := by
  refine List.ext_getElem? fun i => ?_
  by_cases hi : i ∈ vs
  · by_cases hl : i < σ.length
    · rw [wipe_in hi hl, wipe_in hi (by rw [wipe_length]; exact hl)]
    · rw [List.getElem?_eq_none (by rw [wipe_length, wipe_length]; omega), List.getElem?_eq_none (by rw [wipe_length]; omega)]
  · rw [wipe_out hi]
theorem gg_run {T : Tab} {F : Hp} {ρ : List Addr} {S : Store} {H : Hp} {vs : List Nat} : ∀ {is : List Nat} {ds : List D} {xs : List V} {δ δ' : Dn} {σ : St} {Q : St → Hp → Prop}, (∀ i ∈ is, i ∈ vs) → EnvR T F ρ δ σ → Reps T F ρ ds xs → gsOf is ds δ S = some δ' →
    (∀ σ', EnvR T F ρ δ' σ' → wipe σ' vs = wipe σ vs → Q σ' H) → ggOf is xs σ H Q
  | [], ds, xs, δ, δ', σ, Q, hm, env, r, e, q => by
    cases ds with
    | nil => cases r; cases e; exact ⟨rfl, q _ env rfl⟩
    | cons d ds => cases e
  | i :: is, ds, xs, δ, δ', σ, Q, hm, env, r, e, q => by
    cases r with
    | nil => cases e
    | cons r1 rs =>
      have e2 : gsOf is _ (δ.set i (some _)) S = some δ' := e
      exact ⟨_, _, rfl, gg_run (fun j hj => hm j (List.mem_cons_of_mem _ hj)) (env.set r1 i) rs e2 fun σ' env' w => q σ' env' (w.trans (wipe_set (hm i (List.mem_cons_self ..))))⟩
theorem TgS.run {T : Tab} {F : Hp} {ρ : List Addr} {S : Store} {H : Hp} {vs : List Nat} {ts : TgS} {d : D} {x : V} {δ δ' : Dn} {σ : St} {Q : St → Hp → Prop} (rel : Rel T F ρ S H) (hm : ∀ i ∈ ts.sl, i ∈ vs) (env : EnvR T F ρ δ σ) (r : Rep T F ρ d x) (e : ts.g d δ S = some δ')
    (q : ∀ σ', EnvR T F ρ δ' σ' → wipe σ' vs = wipe σ vs → Q σ' H) : ts.tg T.K x σ H Q := by
  cases ts with
  | one i => cases e; exact q _ (env.set r i) (wipe_set (hm i (by simp [TgS.sl])))
  | tup is =>
    have e' : gTupD is.length (gsOf is) d δ S = some δ' := e
    unfold gTupD at e'
    split at e'
    · split at e'
      · rename_i hl
        obtain ⟨p, vs', rfl, hs, rs⟩ := sqT_sub rel r
        exact ⟨p, vs', rfl, hs, by rw [← rs.len]; exact hl, gg_run hm env rs e' q⟩
      · cases e'
    · cases e'
def wipeD (δ : Dn) : List Nat → Dn
  | [] => δ
  | v :: vs => (wipeD δ vs).set v none
theorem EnvR.wipe {T : Tab} {F : Hp} {ρ : List Addr} {δ : Dn} {σ : St} (h : EnvR T F ρ δ σ) : ∀ vs : List Nat, EnvR T F ρ (wipeD δ vs) (L2.wipe σ vs)
  | [] => h
  | v :: vs => (EnvR.wipe h vs).unset v
/-- acc: what is made so far; it stands aside -/
def lcN (it : ItD) (g : MG) (t : MT) (e : ME) (δ : Dn) : Nat → Nat → List D → Store → Out (List D)
  | 0, _, _, _ => .bad
  | f + 1, i, acc, S => match nxtD S i it with
    | none => .bad
    | some none => .ok acc S
    | some (some x) => match g x δ S with
      | none => .bad
      | some δ1 => (t δ1 S).bind fun k S1 => if k = true then (e δ1 S1).bind fun y S2 => if acc.length < 1000000 then lcN it g t e δ f (i + 1) (acc ++ [y]) S2 else .bad
        else lcN it g t e δ f (i + 1) acc S1
def lcR (o : Out (List D)) (m : Bool) : Out D := match o with
  | .ok acc S => ofO (outL m acc S)
  | _ => .bad
def mLc (m : Bool) (mi : MI) (vs : List Nat) (g : MG) (t : MT) (e : ME) : ME := fun δ S => (mi δ S).bind fun it S1 => lcR (lcN it g t e (wipeD δ vs) (cntD S1 it) 0 [] S1) m
def tYesD : MT := fun _ S => .ok true S
abbrev W0 : WX := fun _ _ _ _ => False
/-- an aside of one's own -/
def exP {β : Type} (t : Hp → St → Hp → (β → Hp → Prop) → Prop) : St → Hp → (β → Hp → Prop) → Prop := fun σ H Q => ∃ P, t P σ H Q
theorem PE.ex {X : Cx} {e : Expr} {t : Hp → TE} (h : ∀ P, PE X e (t P)) : PE X e (exP t) := ⟨fun pins s σ H Q I ⟨P, q⟩ => (h P).run pins s σ H Q I q⟩
theorem PTs.ex {X : Cx} {e : List Expr} {t : Hp → TT} (h : ∀ P, PTs X e (t P)) : PTs X e (exP t) := ⟨fun pins s σ H Q I ⟨P, q⟩ => (h P).run pins s σ H Q I q⟩
def SPts (X : Cx) (A : AP) (ifs : List Expr) (m : MT) : Prop := PTs X ifs (tM RB (tb X A) W0 m)
section
variable {X : Cx} {A : AP} {W : WX}
theorem spts_nil : SPts X A [] tYesD := ⟨fun pins s σ H Q I ⟨F, ρ, δ, S, rel, env, post⟩ => pts_nil.run pins s σ H Q I (post F ρ H true (Ext.refl _ _) rel rfl)⟩
theorem spts_one {c : Expr} {m : MT} (h : ST X A W0 c m) : SPts X A [c] m := pts_one h
/-- the block runs -/
theorem lc_of {T : Tab} {W : WX} {mi : MI} {vs : List Nat} {ts : TgS} {t : MT} {e : ME} {m : Bool} {σ : St} {H : Hp} {Q : VK} (hm : ∀ i ∈ ts.sl, i ∈ vs) (h : tM (RD T) T W (mLc m mi vs ts.g t e) σ H Q) :
    tLc (tI T W mi) (ts.tg T.K) (exP fun P => tM RB { T with P := P } W0 t) (exP fun P => tM (RD { T with P := P }) { T with P := P } W0 e) vs σ H Q := by
  obtain ⟨F, ρ, δ, S, rel, env, post⟩ := h
  refine ⟨F, ρ, δ, S, rel, env, ?_⟩
  unfold mLc at post
  revert post
  cases mi δ S with
  | bad => exact fun p => p
  | exn c fs S1 => exact fun p => p
  | ok it S1 =>
    intro p F1 ρ1 H1 J x1 rel1 q1 L hL
    have p1 : Post (RD T) T W σ F1 ρ1 Q (lcR (lcN it ts.g t e (wipeD δ vs) (cntD S1 it) 0 [] S1) m) := Post.mono p x1
    have env1 := env.mono x1
    have pL : T.P L = none := by
      cases hp : T.P L with
      | none => rfl
      | some o =>
        have := (rel1.prv L o hp).1
        rw [hL] at this; cases this
    refine ⟨fun i f H => ∃ F ρ S acc vs', Ext F1 ρ1 F ρ ∧ Rel { T with P := upd T.P L (.lst vs') } F ρ S H ∧ RI T F ρ it J ∧ Reps T F ρ acc vs' ∧ acc.length ≤ 1000000 ∧ Post (RD T) T W σ F ρ Q (lcR (lcN it ts.g t e (wipeD δ vs) f i acc S) m),
      ⟨_, F1, ρ1, S1, [], [], Ext.refl _ _, rel1.hide hL, q1, .nil, by simp, p1⟩, ?_⟩
    rintro i f H2 ⟨F2, ρ2, S2, acc, vs', x2, rel2, ri2, racc, hacc, p2⟩
    cases f with
    | zero => exact p2.elim
    | succ f =>
      unfold lcN at p2
      cases hn : nxtD S2 i it with
      | none => rw [hn] at p2; exact p2.elim
      | some o =>
        have tn := turn_of rel2 ri2 hn
        rw [hn] at p2
        cases o with
        | none =>
          refine .inl ⟨tn, ?_⟩
          have hLL := (rel2.prv L (.lst vs') upd_same).1
          unfold lcR at p2
          cases m with
          | false =>
            obtain ⟨rel3, x3⟩ := rel2.shown pL
            exact p2 _ _ H2 (.ref L) x3 rel3 (.lst upd_same (racc.mono x3))
          | true =>
            have x3 : Ext F2 ρ2 F2 (ρ2 ++ [L]) := ⟨Le.refl F2, List.prefix_append ρ2 [L]⟩
            have rel3 := rel2.shownC (c := .lst acc) pL ⟨(rel2.prv L _ upd_same).2.1, vs', hLL, racc.mono x3⟩ (by simp)
            exact p2 _ _ H2 (.ref L) x3 rel3 (.loc (by rw [← rel2.len, List.getElem?_concat_length]))
        | some x =>
          dsimp only at p2
          cases hg : ts.g x (wipeD δ vs) S2 with
          | none => rw [hg] at p2; exact p2.elim
          | some δ1 =>
            rw [hg] at p2
            dsimp only at p2
            refine .inr ⟨tn.1, fun H' => ∃ F ρ S acc vs', Ext F1 ρ1 F ρ ∧ Rel { T with P := upd T.P L (.lst vs') } F ρ S H' ∧ RI T F ρ it J ∧ Reps T F ρ acc vs' ∧ acc.length ≤ 1000000 ∧ Post (RD T) T W σ F ρ Q (lcR (lcN it ts.g t e (wipeD δ vs) f (i + 1) acc S) m), fun H' q => ⟨f, Nat.lt_succ_self f, q⟩, fun y H' hy => ?_⟩
            obtain ⟨rfl, ry⟩ := tn.2 y H' hy
            refine TgS.run (T := { T with P := upd T.P L (.lst vs') }) rel2 hm ((env1.mono x2).wipe vs) ry hg fun σ3 env3 hw => ⟨hw.trans (wipe_wipe σ vs), upd T.P L (.lst vs'), F2, ρ2, δ1, S2, rel2, env3, ?_⟩
            revert p2
            cases t δ1 S2 with
            | bad => exact fun p => p
            | exn c fs S3 => exact fun p => p.elim
            | ok k S3 =>
              intro p2 F3 ρ3 H3 k' x3 rel3 ek
              subst ek
              simp only [bind_ok] at p2
              cases k with
              | false =>
                simp only [Bool.false_eq_true, if_false] at p2 ⊢
                exact ⟨F3, ρ3, S3, acc, vs', x2.trans x3, rel3, ri2.mono x3, racc.mono x3, hacc, Post.mono p2 x3⟩
              | true =>
                simp only [if_true] at p2 ⊢
                refine ⟨upd T.P L (.lst vs'), F3, ρ3, δ1, S3, rel3, env3.mono x3, ?_⟩
                revert p2
                cases e δ1 S3 with
                | bad => exact fun p => p
                | exn c fs S4 => exact fun p => p.elim
                | ok y S4 =>
                  intro p2 F4 ρ4 H4 v x4 rel4 rv
                  simp only [bind_ok] at p2
                  split at p2
                  · rename_i hl
                    have hLL := (rel4.prv L (.lst vs') upd_same).1
                    refine ⟨vs', hLL, ?_, F4, ρ4, S4, acc ++ [y], vs' ++ [v], (x2.trans x3).trans x4, rel4.aside, (ri2.mono x3).mono x4, ((racc.mono x3).mono x4).append (.cons rv .nil), ?_, Post.mono (Post.mono p2 x3) x4⟩
                    · rw [← racc.len]; exact Nat.lt_of_lt_of_le hl (big_line (Nat.le_refl _))
                    · rw [List.length_append, List.length_singleton]; omega
                  · exact p2.elim
end
end Dee

set_option maxRecDepth 100000
set_option maxHeartbeats 4000000
namespace Dee
open PySem PySem.Spec L2
section
variable {X : Cx} {A : AP} {W : WX}
/-! ### targets of blocks -/
theorem tg_one {K : PySem.W.Frag} {i : Nat} {x : Str} {pos : Pos} (hN : X.N.Nodup) (hi : X.N[i]? = some x := by rfl) (hx : Loc X.env.scope x := by first | exact Or.inl rfl | exact Or.inr rfl) (hf : X.fn x = true ∨ X.env.scope.names.lookup x = some .local := by first | exact .inl rfl | exact .inr rfl) :
    PG X (.Name x pos) ((TgS.one i).tg K) := pg_name hN hi hx hf
theorem tgs_nil : PGs X [] (ggOf []) := pgs_nil
theorem tgs_cons {i : Nat} {is : List Nat} {x : Str} {pos : Pos} {es : List Expr} (hN : X.N.Nodup) (h : PGs X es (ggOf is)) (hi : X.N[i]? = some x := by rfl) (hx : Loc X.env.scope x := by first | exact Or.inl rfl | exact Or.inr rfl) (hf : X.fn x = true ∨ X.env.scope.names.lookup x = some .local := by first | exact .inl rfl | exact .inr rfl)
    (hs : (assignEach (.Name x pos :: es) X.env).map (·.2) = assign (.Name x pos) X.env :: (assignEach es X.env).map (·.2) := by rfl) : PGs X (.Name x pos :: es) (ggOf (i :: is)) := pgs_cons (pg_name hN hi hx hf) h hs
theorem tg_tup {es : List Expr} {k : Nat} {is : List Nat} {pos : Pos} (hc : X.calm = true) (h : PGs X es (ggOf is)) (hn : (assignEach es X.env).length = is.length := by rfl) (hst : (assignEach es X.env).findIdx? (·.1) = none := by rfl) : PG X (.Tuple es k pos) ((TgS.tup is).tg X.K) := pg_tup hc h hn hst
theorem se_lc {m : Bool} {elt tg iter : Expr} {ifs : List Expr} {scope : Scope} {own : List (Str × Nat)} {pos : Pos} {mi : MI} {ts : TgS} {mt : MT} {me : ME} (hc : X.calm = true) (hN : X.N.Nodup) (hi : SI X A W tg iter mi) (ok : blkC X.N X.env.scope scope own = true)
    (hg : ∀ (s : Shared) (H : Hp) (C : Addr) (cl : List (Str × Addr)) (fp : List Addr), PG (X.blk s H scope (compEnvC scope cl C X.env) fp) tg (ts.tg X.K)) (ht : ∀ (s : Shared) (H : Hp) (C : Addr) (cl : List (Str × Addr)) (fp : List Addr) (P : Hp), SPts (X.blk s H scope (compEnvC scope cl C X.env) fp) ⟨A.a, P⟩ ifs mt)
    (he : ∀ (s : Shared) (H : Hp) (C : Addr) (cl : List (Str × Addr)) (fp : List Addr) (P : Hp), SE (X.blk s H scope (compEnvC scope cl C X.env) fp) ⟨A.a, P⟩ W0 elt me) (hts : ∀ i ∈ ts.sl, i ∈ own.map (·.2) := by decide) (hs : ∀ x, foldedSetIterable iter X.env x = pure x := by intro _; rfl) :
    SE X A W (.ListComp elt [⟨tg, iter, ifs, 0⟩] scope pos) (mLc m mi (own.map (·.2)) ts.g mt me) :=
  PE.imp (pe_lc hc hN hi (blkOk_by ok) hg (fun s H C cl fp => PTs.ex (t := fun P => tM RB (tb X ⟨A.a, P⟩) W0 mt) fun P => ht s H C cl fp P) (fun s H C cl fp => PE.ex (t := fun P => tM (RD (tb X ⟨A.a, P⟩)) (tb X ⟨A.a, P⟩) W0 me) fun P => he s H C cl fp P) hs) fun σ H Q h => lc_of (T := tb X A) hts h
/-- name = [..], all on one line -/
theorem ss_setLc {i : Nat} {y : Str} {py : Pos} {m : Bool} {elt tg iter : Expr} {ifs : List Expr} {scope : Scope} {own : List (Str × Nat)} {pos spos : Pos} {mi : MI} {ts : TgS} {mt : MT} {me : ME} (hc : X.calm = true) (hN : X.N.Nodup) (hi : SI X A W tg iter mi) (ok : blkC X.N X.env.scope scope own = true)
    (hg : ∀ (s : Shared) (H : Hp) (C : Addr) (cl : List (Str × Addr)) (fp : List Addr), PG (X.blk s H scope (compEnvC scope cl C X.env) fp) tg (ts.tg X.K)) (ht : ∀ (s : Shared) (H : Hp) (C : Addr) (cl : List (Str × Addr)) (fp : List Addr) (P : Hp), SPts (X.blk s H scope (compEnvC scope cl C X.env) fp) ⟨A.a, P⟩ ifs mt)
    (he : ∀ (s : Shared) (H : Hp) (C : Addr) (cl : List (Str × Addr)) (fp : List Addr) (P : Hp), SE (X.blk s H scope (compEnvC scope cl C X.env) fp) ⟨A.a, P⟩ W0 elt me) (hsw : swapsWith (.ListComp elt [⟨tg, iter, ifs, 0⟩] scope pos) (some (.Name y py)) spos.line X.env = pure true)
    (hts : ∀ i ∈ ts.sl, i ∈ own.map (·.2) := by decide) (hy : X.N[i]? = some y := by rfl) (hyl : X.env.scope.names.lookup y = some .local := by rfl) (hs : ∀ x, foldedSetIterable iter X.env x = pure x := by intro _; rfl) :
    SS X A W (.Assign [.Name y py] (.ListComp elt [⟨tg, iter, ifs, 0⟩] scope pos) spos) (mAsg (mLc m mi (own.map (·.2)) ts.g mt me) (gVar i)) :=
  PS.imp (ps_setLc (i := i) hc hN hy hyl hsw hi (blkOk_by ok) hg (fun s H C cl fp => PTs.ex (t := fun P => tM RB (tb X ⟨A.a, P⟩) W0 mt) fun P => ht s H C cl fp P) (fun s H C cl fp => PE.ex (t := fun P => tM (RD (tb X ⟨A.a, P⟩)) (tb X ⟨A.a, P⟩) W0 me) fun P => he s H C cl fp P) hs) fun D σ H ⟨F, ρ, δ, S, rel, env, post⟩ => by
    have q := (stepS (R1 := RD (tb X A)) (m := mLc m mi (own.map (·.2)) ts.g mt me) rel env post).mono fun x H1 ⟨F1, ρ1, S1, d1, x1, rel1, env1, q1, p1⟩ => show D.nx (σ.set i (some x)) H1 from p1 F1 ρ1 _ H1 (Ext.refl _ _) rel1 (env1.set q1 i)
    exact lc_of (T := tb X A) hts q
/-! ### {k: v, ..} -/
abbrev RK' (T : Tab) : Hp → List Addr → List (Key × D) → List (V × V) → Prop := fun F ρ kds ps => ∃ kv : List (Key × V), ps = kv.map (fun kv => (kV kv.1, kv.2)) ∧ RepK T F ρ kds kv
def mPairs : List (ME × ME) → Dn → Store → Out (List (Key × D))
  | [], _, S => .ok [] S
  | (a, b) :: r, δ, S => (a δ S).bind fun k S1 => (b δ S1).bind fun v S2 => (mPairs r δ S2).bind fun ps S3 => match keyD k with
    | some k => .ok ((k, v) :: ps) S3
    | none => .bad
def mergeL : List (Key × D) → List (Key × D) → List (Key × D)
  | acc, [] => acc
  | acc, (k, v) :: r => mergeL (putL acc k v) r
def mDict (m : Bool) (prs : List (ME × ME)) : ME := fun δ S => (mPairs prs δ S).bind fun kvs S1 => if kvs.length ≤ 15 then ofO (outK m (mergeL [] kvs) S1) else .bad
def trsOf (X : Cx) (A : AP) (W : WX) (prs : List (ME × ME)) : List (TE × TE) := prs.map fun p => (exP fun P => tM (RD (tb X ⟨A.a, P⟩)) (tb X ⟨A.a, P⟩) W p.1, exP fun P => tM (RD (tb X ⟨A.a, P⟩)) (tb X ⟨A.a, P⟩) W p.2)
def SPP (X : Cx) (A : AP) (W : WX) (pos : Pos) (keys : List (Option Expr)) (values : List Expr) (prs : List (ME × ME)) : Prop := PPs X pos keys values (trsOf X A W prs)
theorem spp_nil {pos : Pos} : SPP X A W pos [] [] [] := pps_nil
theorem spp_cons {pos : Pos} {k v : Expr} {ks : List (Option Expr)} {vs : List Expr} {a b : ME} {prs : List (ME × ME)} (hk : ∀ P, SE X ⟨A.a, P⟩ W k a) (hv : ∀ P, SE X ⟨A.a, P⟩ W v b) (h : SPP X A W pos ks vs prs) : SPP X A W pos (some k :: ks) (v :: vs) ((a, b) :: prs) := pps_cons (PE.ex hk) (PE.ex hv) h
theorem pairs_of {P : Hp} {σ : St} : ∀ {prs : List (ME × ME)} {H : Hp} {Q : List (V × V) → Hp → Prop}, tM (RK' (tb X ⟨A.a, P⟩)) (tb X ⟨A.a, P⟩) W (mPairs prs) σ H Q → tPairs (trsOf X A W prs) σ H Q
  | [], H, Q, ⟨F, ρ, δ, S, rel, env, post⟩ => post F ρ H [] (Ext.refl _ _) rel ⟨[], rfl, .nil⟩
  | (a, b) :: r, H, Q, ⟨F, ρ, δ, S, rel, env, post⟩ => by
    refine ⟨P, (step (R1 := RD (tb X ⟨A.a, P⟩)) rel env post).mono fun x H1 ⟨F1, ρ1, S1, d1, x1, rel1, env1, q1, p1⟩ => ?_⟩
    refine ⟨P, (step (R1 := RD (tb X ⟨A.a, P⟩)) rel1 env1 p1).mono fun y H2 ⟨F2, ρ2, S2, d2, x2, rel2, env2, q2, p2⟩ => ?_⟩
    refine pairs_of (P := P) ((step (R1 := RK' (tb X ⟨A.a, P⟩)) (m := mPairs r) rel2 env2 p2).mono fun ps H3 ⟨F3, ρ3, S3, kds, x3, rel3, env3, ⟨kv, e, rk⟩, p3⟩ => ?_)
    split at p3
    · rename_i k hk
      have ek := key_rep q1 hk
      subst ek e
      exact p3 F3 ρ3 H3 _ (Ext.refl _ _) rel3 ⟨(k, y) :: kv, rfl, .cons (q2.mono x3) rk⟩
    · exact p3.elim
theorem mergeL_rep {T : Tab0} {F : Hp} {ρ : List Addr} : ∀ {ks acc : List (Key × D)} {kv av : List (Key × V)}, RepK T F ρ ks kv → RepK T F ρ acc av → RepK T F ρ (mergeL acc ks) (mergeK av kv)
  | [], acc, kv, av, h, ha => by cases h; exact ha
  | (k, d) :: r, acc, kv, av, h, ha => by
    cases h with
    | @cons _ _ v _ vs h1 h2 =>
      show RepK T F ρ (mergeL (putL acc k d) r) (mergeK (putK av k v) vs)
      exact mergeL_rep h2 (ha.put h1)
theorem se_dict {m : Bool} {pos : Pos} {keys : List (Option Expr)} {values : List Expr} {prs : List (ME × ME)} (h : SPP X A W pos keys values prs) (hall : keys.all (·.isSome) = true := by rfl) (hl : keys.length = values.length := by rfl) (h0 : keys ≠ [] := by simp) (h15 : keys.length ≤ 15 := by decide) :
    SE X A W (.Dict keys values pos) (mDict m prs) := PE.imp (pe_disp h hall hl h0 h15) fun σ H Q ⟨F, ρ, δ, S, rel, env, post⟩ p hp => by
  have hide := rel.hide (o := .dK []) hp
  have pL : A.P p = none := by
    cases hq : A.P p with
    | none => rfl
    | some o =>
      have := (rel.prv p o hq).1
      rw [hp] at this; cases this
  refine pairs_of (P := upd A.P p (.dK [])) ⟨F, ρ, δ, S, hide, env, ?_⟩
  unfold mDict at post
  revert post
  cases mPairs prs δ S with
  | bad => exact fun q => q
  | exn c fs S1 =>
    intro q F1 ρ1 H1 cl dd x1 rel1 ex1
    obtain ⟨rel2, x2⟩ := Rel.shown (T := tb X A) (P := A.P) pL rel1
    exact q _ ρ1 H1 cl dd (x1.trans x2) rel2 (ex1.imp_right (Or.imp id fun ⟨d, fv, a, b, c⟩ => ⟨d, fv, a, x2.same.ex b (fun _ z => by cases z), c.mono x2⟩))
  | ok kvs S1 =>
    intro q F1 ρ1 H1 ps x1 rel1 ⟨kv, e, rk⟩
    subst e
    simp only [bind_ok] at q
    split at q
    · rename_i hl
      have hp1 := (rel1.prv p (.dK []) upd_same).1
      refine ⟨hp1, kv, rfl, by rw [← rk.len]; exact hl, ?_⟩
      have rel2 := Rel.aside (T := tb X A) (P := A.P) (p := p) (o' := .dK (mergeK [] kv)) rel1
      have rm := mergeL_rep rk .nil
      cases m with
      | false =>
        obtain ⟨rel3, x3⟩ := Rel.shown (T := tb X A) (P := A.P) pL rel2
        exact q _ _ _ _ (x1.trans x3) rel3 (.dct (.inl upd_same) (rm.mono x3))
      | true =>
        have x3 : Ext F1 ρ1 F1 (ρ1 ++ [p]) := ⟨Le.refl F1, List.prefix_append ρ1 [p]⟩
        have rel3 := Rel.shownC (T := tb X A) (P := A.P) (c := .dct (mergeL [] kvs)) pL rel2 ⟨(rel2.prv p _ upd_same).2.1, _, upd_same, rm.mono x3⟩ (by simp)
        exact q _ _ _ _ (x1.trans x3) rel3 (.loc (by rw [← rel2.len, List.getElem?_concat_length]))
    · exact q.elim
theorem se_dict0 {m : Bool} {pos : Pos} : SE X A W (.Dict [] [] pos) (fun _ S => ofO (outK m [] S)) := PE.imp pe_dnewK fun σ H Q ⟨F, ρ, δ, S, rel, env, post⟩ => (post_ofO post).outK rel .nil
/-! ### raise -/
def mRaise (c : Str) : MS := fun δ S => .exn c [] δ S
theorem ss_raise {B newId initId : String} {bmB : List Value} {x m : Str} {j : Nat} {p p2 pos cpos : Pos} (hc : X.calm = true) (tk : Takes X W) (F : ExcBaseFacts B newId initId bmB) (q : PySem.W.excIn X.K (A.a x) bmB newId = true) (gC : X.mg x = some (.ref (A.a x))) (kC : PySem.W.keepIn X.K (.ref (A.a x)) = true)
    (r : Raises X (.ref (A.a x))) (hg : Gl X x := by rfl) (hdb : (x == ("__debug__" : Str)) = false := by decide) : SS X A W (.Raise (some (.Call (.Name x p) [.Constant (.str m) j p2] [] cpos)) none pos) (mRaise x) :=
  PS.imp (ps_raise hc tk (pmk_own F q gC kC r hg hdb)) fun D σ H ⟨F, ρ, δ, S, rel, env, post⟩ => post F ρ σ H _ none (Ext.refl _ _) rel env ⟨rfl, .inl ⟨rfl, rfl⟩⟩
end
end Dee

set_option maxRecDepth 100000
set_option maxHeartbeats 4000000
namespace Dee
open PySem PySem.Spec L2
/-! ### what a thing leans on -/
mutual
def loD (k : Nat) : D → Bool
  | .loc n => decide (n < k)
  | .tup ds => loDs k ds
  | .lst ds => loDs k ds
  | .rol ds => loDs k ds
  | .dct kvs => loKs k kvs
  | .exc _ fs => loFs k fs
  | .keys d => loD k d
  | _ => true
def loDs (k : Nat) : List D → Bool
  | [] => true
  | d :: r => loD k d && loDs k r
def loKs (k : Nat) : List (Key × D) → Bool
  | [] => true
  | (_, d) :: r => loD k d && loKs k r
def loFs (k : Nat) : List (Str × D) → Bool
  | [] => true
  | (_, d) :: r => loD k d && loFs k r
end
def loC (k : Nat) : Cell → Bool
  | .lst ds => loDs k ds
  | .dct kvs => loKs k kvs
  | .ins _ fs => loFs k fs
  | .dead => true
section
variable {T : Tab0} {F : Hp} {ρ ρ' : List Addr}
theorem pre_back (h : ρ <+: ρ') {n : Nat} {p : Addr} (e : ρ'[n]? = some p) (l : n < ρ.length) : ρ[n]? = some p := by
  obtain ⟨t, rfl⟩ := h
  rw [List.getElem?_append_left l] at e; exact e
mutual
theorem Rep.cut (x : ρ <+: ρ') {d : D} {v : V} : Rep T F ρ' d v → loD ρ.length d = true → Rep T F ρ d v
  | .non, _ => .non
  | .bl b, _ => .bl b
  | .int i, _ => .int i
  | .str s, _ => .str s
  | .tup h r, l => .tup h (Reps.cut_ x r l)
  | .lst h r, l => .lst h (Reps.cut_ x r l)
  | .rol h r, l => .rol h (Reps.cut_ x r l)
  | .dct h r, l => .dct h (RepK.cut x r l)
  | .loc h, l => .loc (pre_back x h (of_decide_eq_true l))
  | .exc h, _ => .exc h
  | .keys h r, l => .keys h (Rep.cut x r l)
  | .kod h, _ => .kod h
  | .excd h hd r, l => .excd h hd (RepF.cut x r l)
theorem Reps.cut_ (x : ρ <+: ρ') {ds : List D} {vs : List V} : Reps T F ρ' ds vs → loDs ρ.length ds = true → Reps T F ρ ds vs
  | .nil, _ => .nil
  | .cons h t, l => by
    have l' := Bool.and_eq_true_iff.mp (show (loD ρ.length _ && loDs ρ.length _) = true from l)
    exact .cons (Rep.cut x h l'.1) (Reps.cut_ x t l'.2)
theorem RepK.cut (x : ρ <+: ρ') {ds : List (Key × D)} {vs : List (Key × V)} : RepK T F ρ' ds vs → loKs ρ.length ds = true → RepK T F ρ ds vs
  | .nil, _ => .nil
  | .cons h t, l => by
    have l' := Bool.and_eq_true_iff.mp (show (loD ρ.length _ && loKs ρ.length _) = true from l)
    exact .cons (Rep.cut x h l'.1) (RepK.cut x t l'.2)
theorem RepF.cut (x : ρ <+: ρ') {ds : List (Str × D)} {vs : List (Str × V)} : RepF T F ρ' ds vs → loFs ρ.length ds = true → RepF T F ρ ds vs
  | .nil, _ => .nil
  | .cons h t, l => by
    have l' := Bool.and_eq_true_iff.mp (show (loD ρ.length _ && loFs ρ.length _) = true from l)
    exact .cons (Rep.cut x h l'.1) (RepF.cut x t l'.2)
end
mutual
theorem Rep.lo {d : D} {v : V} : Rep T F ρ d v → loD ρ.length d = true
  | .non => rfl
  | .bl b => rfl
  | .int i => rfl
  | .str s => rfl
  | .tup h r => Reps.lo r
  | .lst h r => Reps.lo r
  | .rol h r => Reps.lo r
  | .dct h r => RepK.lo r
  | .loc h => decide_eq_true (List.getElem?_eq_some_iff.mp h).1
  | .exc h => rfl
  | .keys (d := d) h r => (Rep.lo r : loD ρ.length d = true)
  | .kod h => rfl
  | .excd h hd r => RepF.lo r
theorem Reps.lo {ds : List D} {vs : List V} : Reps T F ρ ds vs → loDs ρ.length ds = true
  | .nil => rfl
  | .cons h t => Bool.and_eq_true_iff.mpr ⟨Rep.lo h, Reps.lo t⟩
theorem RepK.lo {ds : List (Key × D)} {vs : List (Key × V)} : RepK T F ρ ds vs → loKs ρ.length ds = true
  | .nil => rfl
  | .cons h t => Bool.and_eq_true_iff.mpr ⟨Rep.lo h, RepK.lo t⟩
theorem RepF.lo {ds : List (Str × D)} {vs : List (Str × V)} : RepF T F ρ ds vs → loFs ρ.length ds = true
  | .nil => rfl
  | .cons h t => Bool.and_eq_true_iff.mpr ⟨Rep.lo h, RepF.lo t⟩
end
end
section
variable {T : Tab} {F F' H H' : Hp} {ρ ρ' : List Addr} {S S' : Store} {W : WX} {σ : St} {Q : V → Hp → Prop} {o : Out D}
theorem Rel.lo (r : Rel T F ρ S H) {n : Nat} {c : Cell} (h : S[n]? = some c) : loC S.length c = true := by
  have hn : n < ρ.length := by rw [r.len]; exact (List.getElem?_eq_some_iff.mp h).1
  have k := r.cell n c _ h (List.getElem?_eq_getElem hn)
  rw [← r.len]
  cases c with
  | lst ds => obtain ⟨_, vs, _, q⟩ := k; exact q.lo
  | dct ds => obtain ⟨_, vs, _, q⟩ := k; exact q.lo
  | ins c fs => obtain ⟨_, dx, fv, _, q⟩ := k; exact q.lo
  | dead => rfl
theorem Rel.trim (r : Rel T F ρ' S' H) (x : ρ <+: ρ') (hc : ∀ (n : Nat) (c : Cell), (S'.take ρ.length)[n]? = some c → loC ρ.length c = true) : Rel T F ρ (S'.take ρ.length) H := by
  have hl : ρ.length ≤ S'.length := by rw [← r.len]; exact x.length_le
  have at_ : ∀ n c, (S'.take ρ.length)[n]? = some c → n < ρ.length ∧ S'[n]? = some c := fun n c e => by
    rw [List.getElem?_take] at e
    split at e
    · rename_i h; exact ⟨h, e⟩
    · cases e
  have lv : ∀ n, live (S'.take ρ.length) n → live S' n := fun n ⟨c, e, d⟩ => ⟨c, (at_ n c e).2, d⟩
  refine ⟨r.sub, by rw [List.length_take]; omega, fun n c p e1 e2 => ?_, fun n m p l1 l2 e1 e2 => r.dis n m p (lv n l1) (lv m l2) (pre_get x e1) (pre_get x e2), fun p u e => ?_⟩
  · have k := r.cell n c p (at_ n c e1).2 (pre_get x e2)
    have l := hc n c e1
    cases c with
    | lst ds => obtain ⟨a, vs, b, q⟩ := k; exact ⟨a, vs, b, q.cut_ x l⟩
    | dct ds => obtain ⟨a, vs, b, q⟩ := k; exact ⟨a, vs, b, q.cut x l⟩
    | ins c fs => obtain ⟨a, dx, fv, b, q⟩ := k; exact ⟨a, dx, fv, b, q.cut x l⟩
    | dead => trivial
  · obtain ⟨a, b, c⟩ := r.prv p u e
    exact ⟨a, b, fun n l z => c n (lv n l) (pre_get x z)⟩
/-! ### a def's answer: its list or dict becomes data, what is left behind is let go -/
def frzOut : Out D → Out D
  | .ok (.loc n) S => match S[n]? with
    | some (.lst ds) => .ok (.lst ds) (S.set n .dead)
    | some (.dct ds) => .ok (.dct ds) (S.set n .dead)
    | _ => .ok (.loc n) S
  | o => o
open Classical in
noncomputable def gcOut (S : Store) : Out D → Out D
  | .ok d S' => if (S'.take S.length = S ∨ (S'.take S.length).all (loC S.length) = true) ∧ loD S.length d = true then .ok d (S'.take S.length) else .ok d S'
  | .exn c fs S' => if (S'.take S.length = S ∨ (S'.take S.length).all (loC S.length) = true) ∧ fs = [] then .exn c fs (S'.take S.length) else .exn c fs S'
  | .bad => .bad
theorem post_frz (h : Post (RD T) T W σ F ρ Q (frzOut o)) : Post (RD T) T W σ F ρ Q o := by
  cases o with
  | bad => exact h
  | exn c fs S => exact h
  | ok d S =>
    cases d with
    | loc n =>
      intro F' ρ' H' b x rel r
      have h' : Post (RD T) T W σ F ρ Q (match S[n]? with
        | some (.lst ds) => .ok (.lst ds) (S.set n .dead)
        | some (.dct ds) => .ok (.dct ds) (S.set n .dead)
        | _ => .ok (.loc n) S) := h
      cases r with
      | @loc _ p hp =>
        split at h'
        · rename_i ds e
          obtain ⟨vs, h1, h2⟩ := rel.lstAt e hp
          obtain ⟨rel2, x2⟩ := rel.freeze e (by simp) hp h1
          exact h' _ _ _ _ (x.trans x2) rel2 (.lst upd_same (h2.mono x2))
        · rename_i ds e
          obtain ⟨vs, h1, h2⟩ := rel.dctAt e hp
          obtain ⟨rel2, x2⟩ := rel.freeze e (by simp) hp h1
          exact h' _ _ _ _ (x.trans x2) rel2 (.dct (.inl upd_same) (h2.mono x2))
        · exact h' _ _ _ _ x rel (.loc hp)
    | _ => exact h
theorem lo_take (rel : Rel T F ρ S H) {S' : Store} (h : S'.take S.length = S ∨ (S'.take S.length).all (loC S.length) = true) (n : Nat) (c : Cell) (e : (S'.take ρ.length)[n]? = some c) : loC ρ.length c = true := by
  rw [rel.len] at e ⊢
  rcases h with h | h
  · rw [h] at e; exact rel.lo e
  · exact List.all_eq_true.mp h c (List.mem_of_getElem? e)
theorem post_gc (rel : Rel T F ρ S H) (h : Post (RD T) T W σ F ρ Q (gcOut S o)) : Post (RD T) T W σ F ρ Q o := by
  cases o with
  | bad => exact h
  | ok d S' =>
    simp only [gcOut] at h
    split at h
    · rename_i hc
      intro F' ρ' H' b x rel' r
      have e : S'.take S.length = S'.take ρ.length := by rw [rel.len]
      rw [e] at h
      exact h F' ρ H' b ⟨x.same, List.prefix_refl ρ⟩ (rel'.trim x.pre (lo_take rel hc.1)) (r.cut x.pre (by rw [rel.len]; exact hc.2))
    · exact h
  | exn c fs S' =>
    simp only [gcOut] at h
    split at h
    · rename_i hc
      intro F' ρ' H' cl dd x rel' r
      have e : S'.take S.length = S'.take ρ.length := by rw [rel.len]
      rw [e] at h
      refine h F' ρ H' cl dd ⟨x.same, List.prefix_refl ρ⟩ (rel'.trim x.pre (lo_take rel hc.1)) ⟨r.1, ?_⟩
      obtain ⟨_, hf⟩ := hc
      subst hf
      exact r.2.imp_right fun ⟨d, fv, a, b, c⟩ => ⟨d, fv, a, b, c.cut x.pre rfl⟩
    · exact h
end
/-! ### a def -/
def dstart (N : Nat) (ds : List D) : Dn := ds.map some ++ List.replicate (N - ds.length) none
def fnOut (m : MS) (N : Nat) (ds : List D) (S : Store) : Out D := match m (dstart N ds) S with
  | .nx _ S' => .ok .non S'
  | .rt d S' => .ok d S'
  | .exn c fs _ S' => .exn c fs S'
  | _ => .bad
noncomputable def fnP (m : MS) (N n : Nat) : List D → Store → Out D := fun ds S => if ds.length = n then gcOut S (frzOut (fnOut m N ds S)) else .bad
theorem fnP_len {m : MS} {N n : Nat} (ds : List D) (S : Store) (h : fnP m N n ds S ≠ .bad) : ds.length = n := by
  unfold fnP at h
  split at h
  · assumption
  · exact absurd rfl h
theorem env_start {T : Tab0} {F : Hp} {ρ : List Addr} {ds : List D} {vs : List V} (N : List Str) (r : Reps T F ρ ds vs) : EnvR T F ρ (dstart N.length ds) (L2.start N vs) := by
  have hl := r.len
  refine ⟨by unfold dstart L2.start; simp [hl], fun i d e => ?_⟩
  unfold dstart at e
  unfold L2.start
  by_cases hi : i < ds.length
  · rw [List.getElem?_append_left (by simpa using hi), List.getElem?_map, Option.map_eq_some_iff] at e
    obtain ⟨d', e1, e2⟩ := e
    cases e2
    obtain ⟨v, e3, e4⟩ := r.get e1
    exact ⟨v, by rw [List.getElem?_append_left (by rw [List.length_map, ← hl]; exact hi), List.getElem?_map, e3]; rfl, e4⟩
  · rw [List.getElem?_append_right (by simpa using Nat.le_of_not_lt hi), List.getElem?_replicate] at e
    split at e <;> cases e
theorem PSs.ex {X : Cx} {e : List Stmt} {t : Hp → TS} (h : ∀ P, PSs X e (t P)) : PSs X e (fun D σ H => ∃ P, t P D σ H) := ⟨fun pins s σ H Q I ⟨P, q⟩ => (h P).run pins s σ H Q I q⟩
/-- THE RULE for a def: its body, read -/
theorem fn_ok {P : Program} {w : World} {K : PySem.W.Frag} {mg : Str → Option Value} {base : Heap} {x qual : Str} {st : Stmt} {f : Addr} {fd : FuncData} {N ps : List Str} {k : Nat} {a : Str → Addr} {m : MS} {nN n : Nat} {g : List D → Store → Out D} (hg : g = fnP m nN n) (hN : N.length = nN) (hP : ps.length = n) (Fu : Fun K x qual st f fd) (S : FnScope N ps (defScope st))
    (body : ∀ (cdv : Value) (A' : Around) (outer : List Env) (s : Shared) (H : Hp) (E : XK) (Pv : Hp), Room k (A'.deeper (PyProof.Rows.envOfC qual (defScope st) s.heap.objs.size f cdv)) →
      SSs (cxOf (L2.CX P w) P w K mg base N qual (defScope st) f cdv A' outer s H E) ⟨a, Pv⟩ (fun cls d _ H => E cls d H) (defBody st) m) :
    FnOk P w K mg base (L2.CX P w) (k + 1) f fd ps (spD ⟨K, w, a⟩ n g) := by
  subst hg hN hP
  refine Fu.okX S (fun vs H Q E ⟨Pv, F, ρ, Sx, ds, rel, rs, hl, _⟩ => by rw [← rs.len]; exact hl) fun cdv A' outer s H vs Q E hr ⟨Pv, F, ρ, Sx, ds, rel, rs, hl, post⟩ => ?_
  refine ⟨_, PSs.ex fun Pv => body cdv A' outer s H E Pv hr, Pv, F, ρ, dstart N.length ds, Sx, rel, env_start N rs, ?_⟩
  unfold fnP at post
  rw [if_pos hl] at post
  have p2 := post_frz (post_gc rel post)
  unfold fnOut at p2
  revert p2
  cases m (dstart N.length ds) Sx with
  | nx δ S' => exact fun p F' ρ' σ' H' x' r' e' => p F' ρ' H' .non x' r' .non
  | rt d S' => exact fun p F' ρ' H' v x' r' e' => p F' ρ' H' v x' r' e'
  | exn c fs δ S' => exact fun p F' ρ' σ' H' cl dd x' r' e' q' => p F' ρ' H' cl dd x' r' q'
  | bk δ S' => exact fun p => p.elim
  | ct δ S' => exact fun p => p.elim
  | bad => exact fun p => p.elim
end Dee

set_option maxRecDepth 100000
set_option maxHeartbeats 4000000
namespace Dee
open PySem PySem.Spec L2 PyProof.Rows
/-! ### truth -/
def truD (S : Store) (d : D) : Option Bool := match d with
  | .non => some false
  | .bl b => some b
  | .int i => some (i != 0)
  | .str z => if z.length ≤ 1000000 then some ((z.length : Int) != 0) else none
  | d => match asQ S d with
    | some ds => some (!ds.isEmpty)
    | none => match asK S d with
      | some kvs => some (!kvs.isEmpty)
      | none => none
def tTru (m : ME) : MT := fun δ S => (m δ S).bind fun d S1 => match truD S1 d with
  | some b => .ok b S1
  | none => .bad
theorem reps_empty {T : Tab0} {F : Hp} {ρ : List Addr} {ds : List D} {vs : List V} (r : Reps T F ρ ds vs) : vs.isEmpty = ds.isEmpty := by cases r <;> rfl
theorem repK_empty {T : Tab0} {F : Hp} {ρ : List Addr} {ds : List (Key × D)} {vs : List (Key × V)} (r : RepK T F ρ ds vs) : vs.isEmpty = ds.isEmpty := by cases r <;> rfl
section
variable {X : Cx} {A : AP} {W : WX}
theorem st_tru {e : Expr} {m : ME} (h : SE X A W e m) (he : ∀ whole, isTrue e X.env whole = (do let v ← whole; standAt e.pos; holding [v] (truthy v)) := by intro _; rfl) : ST X A W e (tTru m) := by
  refine ⟨fun pins s σ H Q I ⟨F, ρ, δ, S, rel, env, post⟩ => ?_⟩
  refine isTrue_plain (thn (h.run pins s σ H _ I (step (R1 := RD (tb X A)) rel env post)) fun v s1 ⟨x, H1, I1, r1, F1, ρ1, S1, d1, x1, rel1, env1, q1, p1⟩ => ?_) (he _)
  split at p1
  · rename_i b hb
    have q := p1 F1 ρ1 H1 b (Ext.refl _ _) rel1 rfl
    unfold truD at hb
    split at hb
    · cases hb; cases q1; exact tru_ok pins s1 σ H1 _ v Q I1 r1 ⟨_, rfl, q⟩
    · cases hb; cases q1; exact tru_ok pins s1 σ H1 _ v Q I1 r1 ⟨_, rfl, q⟩
    · cases hb; cases q1; exact tru_ok pins s1 σ H1 _ v Q I1 r1 ⟨_, rfl, q⟩
    · cases q1
      split at hb
      · rename_i hz
        cases hb
        exact tru_ok pins s1 σ H1 _ v Q I1 r1 ⟨_, ⟨big_line hz, rfl⟩, q⟩
      · cases hb
    · split at hb
      · rename_i ds hd
        cases hb
        obtain ⟨p, vs, rfl, hs, rs⟩ := rel1.asQ q1 hd
        refine tru_ok pins s1 σ H1 _ v Q I1 r1 ⟨_, ?_, q⟩
        rw [← reps_empty rs]
        rcases hs with hs | hs
        · exact .inl ⟨vs, hs, rfl⟩
        · exact .inr (.inl ⟨vs, hs, rfl⟩)
      · split at hb
        · rename_i kvs hk
          cases hb
          obtain ⟨p, kv, rfl, hp, rk⟩ := rel1.asK q1 hk
          cases r1
          refine d_truth I1 hp fun s' I' => ⟨H1, I', ?_⟩
          rw [repK_empty rk]; exact q
        · cases hb
  · exact p1.elim
end
/-! ### names of the text -/
section
variable {X : Cx} {A : AP} {W : WX} {x : Str} {pos : Pos}
theorem se_gi {i : Int} (h : ∃ t, X.mg x = some (.int i t)) (hg : Gl X x := by rfl) (hd : (x == ("__debug__" : Str)) = false := by decide) : SE X A W (.Name x pos) (mC (.int i)) :=
  let ⟨t, g⟩ := h; se_glob (v := .int i) g ⟨t, rfl⟩ (fun _ _ => .int i) hg hd
theorem se_gs {i : Str} (h : ∃ t, X.mg x = some (.str i t)) (hg : Gl X x := by rfl) (hd : (x == ("__debug__" : Str)) = false := by decide) : SE X A W (.Name x pos) (mC (.str i)) :=
  let ⟨t, g⟩ := h; se_glob (v := .str i) g ⟨t, rfl⟩ (fun _ _ => .str i) hg hd
theorem se_gk {d : D} (h : ∃ p, X.mg x = some (.ref p) ∧ ∀ F ρ, Rep (t0 X A.a) F ρ d (.ref p)) (hg : Gl X x := by rfl) (hd : (x == ("__debug__" : Str)) = false := by decide) : SE X A W (.Name x pos) (mC d) :=
  let ⟨p, g, r⟩ := h; se_glob (v := .ref p) g rfl r hg hd
end
/-! ### the written part -/
/-- a written dict's items -/
def Ents : List DictEntry → List (Str × D) → Prop
  | [], [] => True
  | e :: r, (k, d) :: ks => (∃ t, e.key = .str k t) ∧ (∃ v, flD d = some v ∧ RelV v e.val) ∧ Ents r ks
  | _, _ => False
theorem kod_mk {T : Tab0} {a : Addr} {es : Array DictEntry} {n : Nat} {kvs : List (Str × D)} (hl : T.K.lookup a = some ⟨.type "dict", none, .dict es n, #[]⟩) (hk : PySem.W.KeysLit T.w.params es.toList) (ha : (a == sysModules) = false) (he : Ents es.toList kvs) : KodOk T a kvs := by
  refine ⟨es, n, hl, hk, ha, fun k => ?_⟩
  obtain ⟨l⟩ := es
  have he : Ents l kvs := he
  have key : ∀ (l : List DictEntry) (kvs : List (Str × D)), Ents l kvs → match kvs.lookup k with
    | some d => ∃ u v, findBy Value.isStrOf l.toArray k = some u ∧ flD d = some v ∧ RelV v u
    | none => findBy Value.isStrOf l.toArray k = none := fun l => by
    induction l with
    | nil =>
      intro kvs h
      cases kvs with
      | nil => simp [findBy]
      | cons p r => exact h.elim
    | cons e r ih =>
      intro kvs h
      cases kvs with
      | nil => exact h.elim
      | cons p ks =>
        obtain ⟨k', d⟩ := p
        obtain ⟨⟨t, h1⟩, ⟨v, h2, h3⟩, h4⟩ := h
        rw [List.lookup_cons]
        have hs : Value.isStrOf k e.key = (k' == k) := by rw [h1]; rfl
        cases hb : k == k' with
        | true =>
          have e2 : k = k' := by simpa using hb
          subst e2
          refine ⟨e.val, v, ?_, h2, h3⟩
          simp [findBy, hs]
        | false =>
          have hb' : (k' == k) = false := by
            rw [beq_eq_false_iff_ne] at hb ⊢; exact Ne.symm hb
          have := ih ks h4
          have e3 : findBy Value.isStrOf (e :: r).toArray k = findBy Value.isStrOf r.toArray k := by
            simp [findBy, List.find?_cons, hs, hb']
          rw [e3]; exact this
  exact key l kvs he
/-- a written list -/
theorem rol_mk {T : Tab0} {F : Hp} {ρ : List Addr} {p : Addr} {vs : List V} {ds : List D} (h : SqL T.K (fun _ => none) p vs) (r : Reps T F ρ ds vs) : Rep T F ρ (.rol ds) (.ref p) := by
  refine .rol ?_ r
  rcases h with (h | ⟨o, h⟩) | h
  · cases h
  · cases h
  · exact .inr h
/-! ### texts -/
theorem ofString_inj {a b : String} : (Str.ofString a = Str.ofString b) ↔ a = b := by
  constructor
  · intro h
    have h1 := congrArg (fun s : Str => s.cps.toList) h
    have h2 : a.toList.map Char.toNat = b.toList.map Char.toNat := by
      rw [Str.ofString_eq_toList, Str.ofString_eq_toList] at h1
      simpa using h1
    have inj : ∀ (l m : List Char), l.map Char.toNat = m.map Char.toNat → l = m := fun l => by
      induction l with
      | nil => intro m e; cases m with
        | nil => rfl
        | cons c m => cases e
      | cons c l ih =>
        intro m e
        cases m with
        | nil => cases e
        | cons d m =>
          rw [List.map_cons, List.map_cons, List.cons.injEq] at e
          have : c = d := Char.ext (UInt32.toNat.inj e.1)
          rw [this, ih m e.2]
    exact String.ext (inj _ _ h2)
  · rintro rfl; rfl
def mDict0 (m : Bool) : ME := fun _ S => ofO (outK m [] S)
/-! ### a name's list or dict becomes data, behind a statement -/
def frzAt (i : Nat) (o : SOut) : SOut := match o with
  | .nx δ S => match δ[i]? with
    | some (some (.loc n)) => match S[n]? with
      | some (.lst ds) => .nx (δ.set i (some (.lst ds))) (S.set n .dead)
      | some (.dct ds) => .nx (δ.set i (some (.dct ds))) (S.set n .dead)
      | _ => .nx δ S
    | _ => .nx δ S
  | o => o
def mFrz (i : Nat) (m : MS) : MS := fun δ S => frzAt i (m δ S)
theorem EnvR.put {T : Tab0} {F : Hp} {ρ : List Addr} {δ : Dn} {σ : L2.St} (h : EnvR T F ρ δ σ) {i : Nat} {d : D} {v : V} (r : Rep T F ρ d v) (e : σ[i]? = some (some v)) : EnvR T F ρ (δ.set i (some d)) σ := by
  refine ⟨by rw [List.length_set]; exact h.1, fun j x q => ?_⟩
  by_cases hj : j = i
  · subst hj
    have hl : j < δ.length := by rw [h.1]; exact (List.getElem?_eq_some_iff.mp e).1
    rw [List.getElem?_set_self hl] at q
    cases q
    exact ⟨v, e, r⟩
  · rw [List.getElem?_set_ne (Ne.symm hj)] at q
    exact h.2 j x q
theorem posts_frz {T : Tab} {W : WX} {F : Hp} {ρ : List Addr} {D : Ends} {i : Nat} {o : SOut} (h : PostS T W F ρ D (frzAt i o)) : PostS T W F ρ D o := by
  cases o with
  | nx δ S =>
    intro F' ρ' σ' H' x rel env
    have h' : PostS T W F ρ D (match δ[i]? with
      | some (some (.loc n)) => match S[n]? with
        | some (.lst ds) => .nx (δ.set i (some (.lst ds))) (S.set n .dead)
        | some (.dct ds) => .nx (δ.set i (some (.dct ds))) (S.set n .dead)
        | _ => .nx δ S
      | _ => .nx δ S) := h
    split at h'
    · rename_i n en
      obtain ⟨v, e1, r⟩ := env.2 i _ en
      cases r with
      | @loc _ p hp =>
        split at h'
        · rename_i ds e
          obtain ⟨vs, h1, h2⟩ := rel.lstAt e hp
          obtain ⟨rel2, x2⟩ := rel.freeze e (by simp) hp h1
          exact h' _ _ _ _ (x.trans x2) rel2 ((env.mono x2).put (.lst upd_same (h2.mono x2)) e1)
        · rename_i ds e
          obtain ⟨vs, h1, h2⟩ := rel.dctAt e hp
          obtain ⟨rel2, x2⟩ := rel.freeze e (by simp) hp h1
          exact h' _ _ _ _ (x.trans x2) rel2 ((env.mono x2).put (.dct (.inl upd_same) (h2.mono x2)) e1)
        · exact h' _ _ _ _ x rel env
    · exact h' _ _ _ _ x rel env
  | _ => exact h
theorem ss_frz {X : Cx} {A : AP} {W : WX} {st : Stmt} {m : MS} {i : Nat} (h : SS X A W st m) : SS X A W st (mFrz i m) := PS.imp h fun D σ H ⟨F, ρ, δ, S, rel, env, post⟩ => ⟨F, ρ, δ, S, rel, env, posts_frz post⟩
end Dee

set_option maxRecDepth 100000
set_option maxHeartbeats 4000000
namespace Dee
open PySem PySem.Spec L2
/-! ### running mirrors: every form, applied; what comes later is looked at when it is due -/
theorem bind_first {α γ : Type} {o o' : Out α} {k : α → Store → Out γ} (h : o = o') : o.bind k = o'.bind k := by rw [h]
theorem then_first {α : Type} {o o' : Out α} {δ : Dn} {k : α → Store → SOut} (h : o = o') : o.then δ k = o'.then δ k := by rw [h]
theorem seq_first {o o' : SOut} {k : MS} (h : o = o') : o.seq k = o'.seq k := by rw [h]
theorem gc_len {S S' : Store} {d : D} (h : S'.length = S.length) : gcOut S (.ok d S') = .ok d S' := by
  simp only [gcOut]
  rw [← h, List.take_length]
  split <;> rfl
theorem gc_lenX {S S' : Store} {c : Str} {fs : List (Str × D)} (h : S'.length = S.length) : gcOut S (.exn c fs S') = .exn c fs S' := by
  simp only [gcOut]
  rw [← h, List.take_length]
  split <;> rfl
theorem gc_app {S G : Store} {d : D} (h : loD S.length d = true) : gcOut S (.ok d (S ++ G)) = .ok d S := by
  simp only [gcOut]
  rw [List.take_left, if_pos ⟨.inl rfl, h⟩]
@[simp] theorem gc_bad {S : Store} : gcOut S .bad = .bad := (rfl)
@[simp] theorem gc_same {S : Store} {d : D} : gcOut S (.ok d S) = .ok d S := gc_len rfl
@[simp] theorem gc_sameX {S : Store} {c : Str} {fs : List (Str × D)} : gcOut S (.exn c fs S) = .exn c fs S := gc_lenX rfl
@[simp] theorem gc_one {c c' : Cell} {S : Store} {d : D} : gcOut (c :: S) (.ok d (c' :: S)) = .ok d (c' :: S) := gc_len rfl
@[simp] theorem gc_oneX {c c' : Cell} {S : Store} {e : Str} {fs : List (Str × D)} : gcOut (c :: S) (.exn e fs (c' :: S)) = .exn e fs (c' :: S) := gc_lenX rfl
@[simp] theorem frz_bl (b : Bool) (S : Store) : frzOut (.ok (.bl b) S) = .ok (.bl b) S := (rfl)
@[simp] theorem frz_int (b : Int) (S : Store) : frzOut (.ok (.int b) S) = .ok (.int b) S := (rfl)
@[simp] theorem frz_str (b : Str) (S : Store) : frzOut (.ok (.str b) S) = .ok (.str b) S := (rfl)
@[simp] theorem frz_non (S : Store) : frzOut (.ok .non S) = .ok .non S := (rfl)
@[simp] theorem frz_tup (b : List D) (S : Store) : frzOut (.ok (.tup b) S) = .ok (.tup b) S := (rfl)
@[simp] theorem frz_lst (b : List D) (S : Store) : frzOut (.ok (.lst b) S) = .ok (.lst b) S := (rfl)
@[simp] theorem frz_dct (b : List (Key × D)) (S : Store) : frzOut (.ok (.dct b) S) = .ok (.dct b) S := (rfl)
@[simp] theorem frz_exn (c : Str) (fs : List (Str × D)) (S : Store) : frzOut (.exn c fs S) = .exn c fs S := (rfl)
@[simp] theorem frz_bad : frzOut .bad = .bad := (rfl)
@[simp] theorem str_inj {a b : String} : (Str.ofString a = Str.ofString b) = (a = b) := propext ofString_inj
def soOut : SOut → Out D
  | .nx _ S' => .ok .non S'
  | .rt d S' => .ok d S'
  | .exn c fs _ S' => .exn c fs S'
  | _ => .bad
@[simp] theorem so_nx (δ : Dn) (S : Store) : soOut (.nx δ S) = .ok .non S := (rfl)
@[simp] theorem so_rt (d : D) (S : Store) : soOut (.rt d S) = .ok d S := (rfl)
@[simp] theorem so_exn (c : Str) (fs : List (Str × D)) (δ : Dn) (S : Store) : soOut (.exn c fs δ S) = .exn c fs S := (rfl)
@[simp] theorem so_bad : soOut .bad = .bad := (rfl)
theorem run_def {m : MS} {N n : Nat} {ds : List D} {S : Store} (h : ds.length = n) : fnP m N n ds S = gcOut S (frzOut (soOut (m (dstart N ds) S))) := by
  unfold fnP
  rw [if_pos h]
  unfold fnOut
  cases m (dstart N ds) S <;> rfl
section
variable {δ : Dn} {S : Store}
@[simp] theorem ap_var (i : Nat) : mVar i δ S = (match δ[i]? with
  | some (some d) => .ok d S
  | _ => .bad) := (rfl)
@[simp] theorem ap_c (d : D) : mC d δ S = .ok d S := (rfl)
@[simp] theorem ap_bin (f : P2) (a b : ME) : mBin f a b δ S = (a δ S).bind fun d1 S1 => (b δ S1).bind fun d2 S2 => ofO (f d1 d2 S2) := (rfl)
@[simp] theorem ap_un (f : P1) (a : ME) : mUn f a δ S = (a δ S).bind fun d S1 => ofO (f d S1) := (rfl)
@[simp] theorem ap_val (m : ME) : tVal m δ S = toB (m δ S) := (rfl)
@[simp] theorem toB_ok (b : Bool) : toB (.ok (.bl b) S) = .ok b S := (rfl)
@[simp] theorem toB_exn (c : Str) (fs : List (Str × D)) : toB (.exn c fs S) = .exn c fs S := (rfl)
def chK (d : D) (x y : Out D) : Out D := match d with
  | .bl true => x
  | .bl false => y
  | _ => .bad
@[simp] theorem chK_b (b : Bool) (x y : Out D) : chK (.bl b) x y = if b = true then x else y := by cases b <;> rfl
@[simp] theorem ap_chain (f g : P2) (a b c : ME) : mChain f g a b c δ S = (a δ S).bind fun d1 S1 => (b δ S1).bind fun d2 S2 => (ofO (f d1 d2 S2)).bind fun d S3 => chK d ((c δ S3).bind fun d3 S4 => ofO (g d2 d3 S4)) (.ok (.bl false) S3) := (rfl)
@[simp] theorem ap_and (a b : ME) : mAnd a b δ S = (toB (a δ S)).bind fun k S1 => if k = true then b δ S1 else .ok (.bl false) S1 := (rfl)
@[simp] theorem ap_or (a b : ME) : mOr a b δ S = (toB (a δ S)).bind fun k S1 => if k = true then .ok (.bl true) S1 else b δ S1 := (rfl)
@[simp] theorem ap_not (a : ME) : mNot a δ S = (toB (a δ S)).bind fun k S1 => .ok (.bl (!k)) S1 := (rfl)
@[simp] theorem ap_if (t : MT) (a b : ME) : mIf t a b δ S = (t δ S).bind fun k S1 => if k = true then a δ S1 else b δ S1 := (rfl)
@[simp] theorem ap_tand (a b : MT) : tAndD a b δ S = (a δ S).bind fun k S1 => if k = true then b δ S1 else .ok false S1 := (rfl)
@[simp] theorem ap_tor (a b : MT) : tOrD a b δ S = (a δ S).bind fun k S1 => if k = true then .ok true S1 else b δ S1 := (rfl)
@[simp] theorem ap_tnot (a : MT) : tNotD a δ S = (a δ S).bind fun k S1 => .ok (!k) S1 := (rfl)
@[simp] theorem ap_tru (m : ME) : tTru m δ S = (m δ S).bind fun d S1 => match truD S1 d with
  | some b => .ok b S1
  | none => .bad := (rfl)
@[simp] theorem ap_nilA : aNil δ S = .ok [] S := (rfl)
@[simp] theorem ap_consA (a : ME) (r : MA) : aCons a r δ S = (a δ S).bind fun d S1 => (r δ S1).bind fun ds S2 => .ok (d :: ds) S2 := (rfl)
@[simp] theorem ap_app (f : PL) (a : MA) : mApp f a δ S = (a δ S).bind fun ds S1 => ofO (f ds S1) := (rfl)
@[simp] theorem ap_call (g : List D → Store → Out D) (a : MA) : mCall g a δ S = (a δ S).bind fun ds S1 => g ds S1 := (rfl)
@[simp] theorem ap_tup (a : MA) : mTup a δ S = (a δ S).bind fun ds S1 => if ds.length ≤ 1000000 then .ok (.tup ds) S1 else .bad := (rfl)
@[simp] theorem ap_lst (m : Bool) (a : MA) : mLst m a δ S = (a δ S).bind fun ds S1 => if ds.length ≤ 1000000 then ofO (outL m ds S1) else .bad := (rfl)
@[simp] theorem ap_sl (m : Bool) (a : ME) (lo hi : MO) : mSl m a lo hi δ S = (a δ S).bind fun d S1 => (lo δ S1).bind fun l S2 => (hi δ S2).bind fun h S3 => ofO (slD m d l h S3) := (rfl)
@[simp] theorem ap_oNone : oNone δ S = .ok none S := (rfl)
@[simp] theorem ap_oSome (a : ME) : oSome a δ S = (a δ S).bind fun d S1 => match d with
  | .int i => .ok (some i) S1
  | _ => .bad := (rfl)
@[simp] theorem ap_meth (k : Kd) (f : PM) (o : ME) (a : MA) : mMeth k f o a δ S = (o δ S).bind fun d S1 => if isK k S1 d = true then (a δ S1).bind fun ds S2 => ofO (f d ds S2) else .bad := (rfl)
@[simp] theorem ap_dict (m : Bool) (prs : List (ME × ME)) : mDict m prs δ S = (mPairs prs δ S).bind fun kvs S1 => if kvs.length ≤ 15 then ofO (outK m (mergeL [] kvs) S1) else .bad := (rfl)
@[simp] theorem ap_dict0 (m : Bool) : mDict0 m δ S = ofO (outK m [] S) := (rfl)
@[simp] theorem ap_pairs0 : mPairs [] δ S = .ok [] S := (rfl)
@[simp] theorem ap_pairs (a b : ME) (r : List (ME × ME)) : mPairs ((a, b) :: r) δ S = (a δ S).bind fun k S1 => (b δ S1).bind fun v S2 => (mPairs r δ S2).bind fun ps S3 => match keyD k with
    | some k => .ok ((k, v) :: ps) S3
    | none => .bad := (rfl)
@[simp] theorem ap_sNil : mNil δ S = .nx δ S := (rfl)
@[simp] theorem ap_seq (a b : MS) : mSeq a b δ S = (a δ S).seq b := (rfl)
@[simp] theorem ap_ex (a : ME) : mEx a δ S = (a δ S).then δ fun _ S1 => .nx δ S1 := (rfl)
@[simp] theorem ap_rt (a : ME) : mRt a δ S = (a δ S).then δ fun d S1 => .rt d S1 := (rfl)
@[simp] theorem ap_rtN : mRtN δ S = .rt .non S := (rfl)
@[simp] theorem ap_ifS (t : MT) (a b : MS) : mIfS t a b δ S = (t δ S).then δ fun k S1 => if k = true then a δ S1 else b δ S1 := (rfl)
@[simp] theorem ap_asg (a : ME) (g : MG) : mAsg a g δ S = (a δ S).then δ fun d S1 => match g d δ S1 with
  | some δ' => .nx δ' S1
  | none => .bad := (rfl)
@[simp] theorem ap_put (v o i : ME) : mPut v o i δ S = (v δ S).then δ fun y S1 => (o δ S1).then δ fun d S2 => (i δ S2).then δ fun k S3 => match cellK S3 d, keyD k with
  | some (n, kvs), some k => if kvs.length < 1000000 then .nx δ (S3.set n (.dct (putL kvs k y))) else .bad
  | _, _ => .bad := (rfl)
@[simp] theorem ap_raise (c : Str) : mRaise c δ S = .exn c [] δ S := (rfl)
@[simp] theorem ap_for (mi : MI) (g : MG) (b : MS) : mFor mi g b δ S = (mi δ S).then δ fun it S1 => forN it g b (cntD S1 it) 0 δ S1 := (rfl)
@[simp] theorem ap_iRng (a : ME) : iRng a δ S = (a δ S).bind fun d S1 => match d with
  | .int j => if -1000000000 ≤ j ∧ j < 1000000000 then .ok (.rng 0 j.toNat) S1 else .bad
  | _ => .bad := (rfl)
@[simp] theorem ap_iAt (a : ME) : iAt a δ S = (a δ S).bind fun d S1 => if isKeys d = true then .bad else match itemsD S1 d with
  | some _ => .ok (.at_ d) S1
  | none => .bad := (rfl)
@[simp] theorem g_var (i : Nat) (d : D) : gVar i d δ S = some (δ.set i (some d)) := (rfl)
@[simp] theorem g_tup (n : Nat) (g : MGs) (ds : List D) : gTupD n g (.tup ds) δ S = if ds.length = n then g ds δ S else none := (rfl)
@[simp] theorem gs_nil : gsNil [] δ S = some δ := (rfl)
@[simp] theorem gs_cons (g : MG) (r : MGs) (d : D) (ds : List D) : gsCons g r (d :: ds) δ S = (g d δ S).bind fun δ' => r ds δ' S := (rfl)
/-! operators on things known -/
@[simp] theorem o_addI (m : Bool) (a b : Int) : addD m (.int a) (.int b) S = some (.int (a + b), S) := (rfl)
@[simp] theorem o_addS (m : Bool) (a b : Str) : addD m (.str a) (.str b) S = if a.length + b.length ≤ 1000000 then some (.str (a ++ b), S) else none := (rfl)
@[simp] theorem o_addT (m : Bool) (a b : List D) : addD m (.tup a) (.tup b) S = if a.length + b.length ≤ 1000000 then some (.tup (a ++ b), S) else none := (rfl)
@[simp] theorem o_addL (m : Bool) (a b : List D) : addD m (.lst a) (.lst b) S = if a.length + b.length ≤ 1000000 then outL m (a ++ b) S else none := (rfl)
@[simp] theorem o_sub (a b : Int) : subD (.int a) (.int b) S = some (.int (a - b), S) := (rfl)
@[simp] theorem o_neg (a : Int) : negD (.int a) S = some (.int (-a), S) := (rfl)
@[simp] theorem o_mulI (a b : Int) : mulD (.int a) (.int b) S = if (-18446744073709551616 < a ∧ a < 18446744073709551616) ∨ (-18446744073709551616 < b ∧ b < 18446744073709551616) then some (.int (a * b), S) else none := (rfl)
@[simp] theorem o_mulS (a : Str) (b : Int) : mulD (.str a) (.int b) S = if b < 1000000 ∧ -1000000 < b ∧ a.length * b.toNat ≤ 1000000 then some (.str ⟨(List.replicate b.toNat a.cps.toList).flatten.toArray⟩, S) else none := (rfl)
@[simp] theorem o_fdiv (a b : Int) : fdivD (.int a) (.int b) S = if 0 < b ∧ b < 1073741824 then some (.int (a / b), S) else none := (rfl)
@[simp] theorem o_mod (a b : Int) : modD (.int a) (.int b) S = if 0 < b then some (.int (a % b), S) else none := (rfl)
@[simp] theorem o_pow (a b : Int) : powD (.int a) (.int b) S = if 0 ≤ b ∧ b ≤ 1000000 ∧ a.natAbs < 2 ^ 64 then some (.int (a ^ b.toNat), S) else none := (rfl)
@[simp] theorem o_cmp (p : Int → Int → Bool) (a b : Int) : cmpD p (.int a) (.int b) S = some (.bl (p a b), S) := (rfl)
@[simp] theorem o_isN (n : Bool) : isND n .non .non S = some (.bl (!n), S) := (rfl)
@[simp] theorem o_isI (n : Bool) (a : Int) : isND n (.int a) .non S = some (.bl n, S) := (rfl)
@[simp] theorem o_isS (n : Bool) (a : Str) : isND n (.str a) .non S = some (.bl n, S) := (rfl)
@[simp] theorem o_isT (n : Bool) (a : List D) : isND n (.tup a) .non S = some (.bl n, S) := (rfl)
@[simp] theorem o_isL (n : Bool) (a : List D) : isND n (.lst a) .non S = some (.bl n, S) := (rfl)
@[simp] theorem o_isD (n : Bool) (a : List (Key × D)) : isND n (.dct a) .non S = some (.bl n, S) := (rfl)
@[simp] theorem o_isO (n : Bool) (a : Nat) : isND n (.loc a) .non S = some (.bl n, S) := (rfl)
@[simp] theorem o_eq (n : Bool) (a b : D) : eqP n a b S = (match eqTop S a b with
  | some r => some (.bl (if n then !r else r), S)
  | none => none) := (rfl)
@[simp] theorem eq_ss (a b : Str) : eqTop S (.str a) (.str b) = some (decide (a = b)) := (rfl)
@[simp] theorem eq_ii (a b : Int) : eqTop S (.int a) (.int b) = some (decide (a = b)) := (rfl)
@[simp] theorem eq_bb (a b : Bool) : eqTop S (.bl a) (.bl b) = some (decide (a = b)) := (rfl)
@[simp] theorem eq_nn : eqTop S .non .non = some true := (rfl)
@[simp] theorem eq_nt (a : List D) : eqTop S .non (.tup a) = some false := (rfl)
@[simp] theorem eq_tn (a : List D) : eqTop S (.tup a) .non = some false := (rfl)
@[simp] theorem eq_si (a : Str) (b : Int) : eqTop S (.str a) (.int b) = some false := (rfl)
@[simp] theorem eq_is (a : Str) (b : Int) : eqTop S (.int b) (.str a) = some false := (rfl)
@[simp] theorem in_one (n : Bool) (c : Nat) (z : Str) : inD n (.str ⟨#[c]⟩) (.str z) S = some (.bl (n != decide (c ∈ z.cps.toList)), S) := (rfl)
@[simp] theorem in_tup (n : Bool) (a : Str) (ds : List D) : inD n (.str a) (.tup ds) S = (anyEq S (.str a) ds).map fun r => (.bl (n != r), S) := (rfl)
@[simp] theorem in_lst (n : Bool) (a : Str) (ds : List D) : inD n (.str a) (.lst ds) S = (anyEq S (.str a) ds).map fun r => (.bl (n != r), S) := (rfl)
@[simp] theorem in_dct (n : Bool) (a : Str) (kvs : List (Key × D)) : inD n (.str a) (.dct kvs) S = some (.bl (n != (lk kvs (.inr a)).isSome), S) := (rfl)
@[simp] theorem any_nil (d : D) : anyEq S d [] = some false := (rfl)
@[simp] theorem any_str (a b : Str) (r : List D) : anyEq S (.str a) (.str b :: r) = (anyEq S (.str a) r).map fun c => (decide (b = a) || c) := by
  show (match eqD S 20 (.str b) (.str a), anyEq S (.str a) r with
    | some b, some c => some (b || c)
    | _, _ => none) = _
  show (match some (decide (b = a)), anyEq S (.str a) r with
    | some b, some c => some (b || c)
    | _, _ => none) = _
  cases anyEq S (.str a) r <;> rfl
@[simp] theorem ix_t (ds : List D) (i : Int) : ixD (.tup ds) (.int i) S = (atI ds i).map fun d => (d, S) := (rfl)
@[simp] theorem ix_l (ds : List D) (i : Int) : ixD (.lst ds) (.int i) S = (atI ds i).map fun d => (d, S) := (rfl)
@[simp] theorem ix_r (ds : List D) (i : Int) : ixD (.rol ds) (.int i) S = (atI ds i).map fun d => (d, S) := (rfl)
@[simp] theorem ix_s (z : Str) (i : Int) : ixD (.str z) (.int i) S = if z.length ≤ 1000000 then (atI z.cps.toList i).map fun c => (.str ⟨#[c]⟩, S) else none := (rfl)
@[simp] theorem ix_d (kvs : List (Key × D)) (k : Str) : ixD (.dct kvs) (.str k) S = (lk kvs (.inr k)).map fun d => (d, S) := (rfl)
@[simp] theorem ix_k (kvs : List (Str × D)) (k : Str) : ixD (.kod kvs) (.str k) S = (kvs.lookup k).map fun d => (d, S) := (rfl)
@[simp] theorem sl_s (m : Bool) (z : Str) (lo hi : Option Int) : slD m (.str z) lo hi S = if z.length ≤ 1000000 then some (.str ⟨(cutL z.cps.toList lo hi).toArray⟩, S) else none := (rfl)
@[simp] theorem sl_t (m : Bool) (ds : List D) (lo hi : Option Int) : slD m (.tup ds) lo hi S = some (.tup (cutL ds lo hi), S) := (rfl)
@[simp] theorem sl_l (m : Bool) (ds : List D) (lo hi : Option Int) : slD m (.lst ds) lo hi S = outL m (cutL ds lo hi) S := (rfl)
@[simp] theorem len_s (s : Str) : lenD [.str s] S = if s.length ≤ 1000000 then some (.int s.length, S) else none := (rfl)
@[simp] theorem len_t (ds : List D) : lenD [.tup ds] S = some (.int ds.length, S) := (rfl)
@[simp] theorem len_l (ds : List D) : lenD [.lst ds] S = some (.int ds.length, S) := (rfl)
@[simp] theorem len_r (ds : List D) : lenD [.rol ds] S = some (.int ds.length, S) := (rfl)
@[simp] theorem len_d (kvs : List (Key × D)) : lenD [.dct kvs] S = some (.int kvs.length, S) := (rfl)
@[simp] theorem abs_i (i : Int) : absD [.int i] S = some (.int (if i < 0 then -i else i), S) := (rfl)
@[simp] theorem max_i (i j : Int) : maxD [.int i, .int j] S = some (.int (if j > i then j else i), S) := (rfl)
@[simp] theorem min_i (i j : Int) : minD [.int i, .int j] S = some (.int (if j < i then j else i), S) := (rfl)
@[simp] theorem int_i (i : Int) : intD [.int i] S = some (.int i, S) := (rfl)
@[simp] theorem int_b (b : Bool) : intD [.bl b] S = some (.int (if b then 1 else 0), S) := (rfl)
@[simp] theorem ord_s (c : Nat) : ordD [.str ⟨#[c]⟩] S = some (.int c, S) := (rfl)
@[simp] theorem all_l (ds : List D) : allD [.lst ds] S = (match asBs ds with
  | some bs => some (.bl (bs.all id), S)
  | none => none) := (rfl)
@[simp] theorem any_l (ds : List D) : anyD [.lst ds] S = (match asBs ds with
  | some bs => some (.bl (bs.any id), S)
  | none => none) := (rfl)
@[simp] theorem tup_l (ds : List D) : tupleD [.lst ds] S = some (.tup ds, S) := (rfl)
@[simp] theorem tup_t (ds : List D) : tupleD [.tup ds] S = some (.tup ds, S) := (rfl)
@[simp] theorem tru_b (b : Bool) : truD S (.bl b) = some b := (rfl)
@[simp] theorem tru_l (ds : List D) : truD S (.lst ds) = some (!ds.isEmpty) := (rfl)
@[simp] theorem tru_r (ds : List D) : truD S (.rol ds) = some (!ds.isEmpty) := (rfl)
@[simp] theorem isK_l (ds : List D) : isK .lst S (.lst ds) = true := (rfl)
@[simp] theorem isK_d (ds : List (Key × D)) : isK .dct S (.dct ds) = true := (rfl)
@[simp] theorem isK_k (ds : List (Str × D)) : isK .kod S (.kod ds) = true := (rfl)
@[simp] theorem isK_s (s : Str) : isK .str S (.str s) = true := (rfl)
@[simp] theorem get_k (kvs : List (Str × D)) (k : Str) (x : D) : getD2 (.kod kvs) [.str k, x] S = some ((kvs.lookup k).getD x, S) := (rfl)
@[simp] theorem get_d (kvs : List (Key × D)) (k : Str) (x : D) : getD2 (.dct kvs) [.str k, x] S = some ((lk kvs (.inr k)).getD x, S) := (rfl)
@[simp] theorem copy_d (m : Bool) (kvs : List (Key × D)) : copyD m (.dct kvs) [] S = outK m kvs S := (rfl)
@[simp] theorem keys_d (kvs : List (Key × D)) : keysD (.dct kvs) [] S = some (.keys (.dct kvs), S) := (rfl)
@[simp] theorem isKeys_s (s : Str) : isKeys (.str s) = false := (rfl)
@[simp] theorem isKeys_t (s : List D) : isKeys (.tup s) = false := (rfl)
@[simp] theorem isKeys_l (s : List D) : isKeys (.lst s) = false := (rfl)
@[simp] theorem items_s (z : Str) : itemsD S (.str z) = some (z.cps.toList.map fun c => .str ⟨#[c]⟩) := (rfl)
@[simp] theorem items_t (ds : List D) : itemsD S (.tup ds) = some ds := (rfl)
@[simp] theorem items_l (ds : List D) : itemsD S (.lst ds) = some ds := (rfl)
@[simp] theorem items_r (ds : List D) : itemsD S (.rol ds) = some ds := (rfl)
end
/-! counts -/
@[simp] theorem cl_le (n k : Nat) : (((n : Nat) : Int) ≤ (no_index (@OfNat.ofNat Int k _))) = (n ≤ k) := propext Int.ofNat_le
@[simp] theorem cl_ge (n k : Nat) : ((no_index (@OfNat.ofNat Int k _)) ≤ ((n : Nat) : Int)) = (k ≤ n) := propext Int.ofNat_le
@[simp] theorem cl_lt (n k : Nat) : (((n : Nat) : Int) < (no_index (@OfNat.ofNat Int k _))) = (n < k) := propext Int.ofNat_lt
@[simp] theorem cl_gt (n k : Nat) : ((no_index (@OfNat.ofNat Int k _)) < ((n : Nat) : Int)) = (k < n) := propext Int.ofNat_lt
@[simp] theorem cl_eq (n k : Nat) : (((n : Nat) : Int) = (no_index (@OfNat.ofNat Int k _))) = (n = k) := propext ⟨fun h => Int.ofNat.inj h, fun h => congrArg Int.ofNat h⟩
theorem nxt_at {S : Store} {d : D} {items : List D} (h : itemsD S d = some items) (j : Nat) : nxtD S j (.at_ d) = some items[j]? := by
  show (itemsD S d).map _ = _
  rw [h]; rfl
theorem cnt_at {S : Store} {d : D} {items : List D} (h : itemsD S d = some items) : cntD S (.at_ d) = items.length + 1 := by
  show (match itemsD S d with
    | some ds => ds.length + 1
    | none => 0) = _
  rw [h]
/-- a block that changes nothing -/
theorem lcN_map {α : Type} {it : ItD} {ts : TgS} {t : MT} {me : ME} {δ : Dn} {S : Store} {l : List α} {g h : α → D} {p : α → Bool} (hn : ∀ j, nxtD S j it = some (l.map g)[j]?) (he : ∀ x ∈ l, ∃ δ', ts.g (g x) δ S = some δ' ∧ t δ' S = .ok (p x) S ∧ (p x = true → me δ' S = .ok (h x) S)) :
    ∀ (n j : Nat) (acc : List D), l.length - j < n → j ≤ l.length → acc.length + l.length ≤ 1000000 + j → lcN it ts.g t me δ n j acc S = .ok (acc ++ ((l.drop j).filter p).map h) S
  | 0, _, _, h, _, _ => absurd h (Nat.not_lt_zero _)
  | n + 1, j, acc, hh, hj, hl => by
    unfold lcN
    rw [hn j]
    by_cases hlt : j < l.length
    · rw [List.getElem?_map, List.getElem?_eq_getElem hlt]
      obtain ⟨δ', e1, e2, e3⟩ := he _ (List.getElem_mem hlt)
      simp only [Option.map_some, e1, e2, bind_ok]
      rw [List.drop_eq_getElem_cons hlt, List.filter_cons]
      cases hp : p l[j] with
      | true =>
        simp only [if_true, e3 hp, bind_ok]
        rw [if_pos (by omega), lcN_map hn he n (j + 1) _ (by omega) hlt (by rw [List.length_append, List.length_singleton]; omega), List.append_assoc, List.map_cons]
        rfl
      | false =>
        simp only [Bool.false_eq_true, if_false]
        exact lcN_map hn he n (j + 1) acc (by omega) hlt (by omega)
    · have e : j = l.length := by omega
      subst e
      rw [List.getElem?_eq_none (by simp), List.drop_length]
      simp
theorem mLc_filter {α : Type} {mi : MI} {vs : List Nat} {ts : TgS} {t : MT} {me : ME} {δ : Dn} {S : Store} {d : D} {l : List α} {g h : α → D} {p : α → Bool} (hi : mi δ S = .ok (.at_ d) S) (hd : itemsD S d = some (l.map g)) (hl : l.length ≤ 1000000)
    (he : ∀ x ∈ l, ∃ δ', ts.g (g x) (wipeD δ vs) S = some δ' ∧ t δ' S = .ok (p x) S ∧ (p x = true → me δ' S = .ok (h x) S)) : mLc false mi vs ts.g t me δ S = .ok (.lst ((l.filter p).map h)) S := by
  unfold mLc
  rw [hi, bind_ok, cnt_at hd, lcN_map (nxt_at hd) he _ 0 [] (by simp) (by omega) (by simpa using hl)]
  rfl
theorem mLc_map {α : Type} {mi : MI} {i : Nat} {me : ME} {δ : Dn} {S : Store} {d : D} {l : List α} {g h : α → D} (hi : mi δ S = .ok (.at_ d) S) (hd : itemsD S d = some (l.map g)) (hl : l.length ≤ 1000000) (he : ∀ x ∈ l, me ((wipeD δ [i]).set i (some (g x))) S = .ok (h x) S) :
    mLc false mi [i] (TgS.one i).g tYesD me δ S = .ok (.lst (l.map h)) S := by
  have := mLc_filter (ts := .one i) (t := tYesD) (vs := [i]) (p := fun _ => true) hi hd hl fun x hx => ⟨_, rfl, rfl, fun _ => he x hx⟩
  rw [this, List.filter_eq_self.mpr (fun _ _ => rfl)]
theorem asBs_map {α : Type} (l : List α) (p : α → Bool) : asBs (l.map fun c => D.bl (p c)) = some (l.map p) := by
  induction l with
  | nil => rfl
  | cons c l ih => simp [asBs, ih]
@[simp] theorem strBeq (a b : String) : (Str.ofString a == Str.ofString b) = (a == b) := by
  rw [Bool.eq_iff_iff, beq_iff_eq, beq_iff_eq]; exact ofString_inj
end Dee

set_option maxRecDepth 100000
set_option maxHeartbeats 4000000
namespace Dee
open PySem PySem.Spec L2 PyProof.Rows
/-! ### objects of the text's own classes -/
def insOf (S : Store) (d : D) : Option (Nat × Str × List (Str × D)) := match d with
  | .loc n => match S[n]? with
    | some (.ins c fs) => some (n, c, fs)
    | _ => none
  | _ => none
theorem insOf_inv {S : Store} {d : D} {n : Nat} {c : Str} {fs : List (Str × D)} (h : insOf S d = some (n, c, fs)) : d = .loc n ∧ S[n]? = some (.ins c fs) := by
  unfold insOf at h
  split at h
  · split at h
    · cases h; exact ⟨rfl, by assumption⟩
    · cases h
  · cases h
theorem insOf_loc {S : Store} {n : Nat} {c : Str} {fs : List (Str × D)} (h : S[n]? = some (.ins c fs)) : insOf S (.loc n) = some (n, c, fs) := by simp [insOf, h]
theorem RepF.put {T : Tab0} {F : Hp} {ρ : List Addr} {f : Str} {d : D} {v : V} (r : Rep T F ρ d v) : ∀ {fs : List (Str × D)} {fv : List (Str × V)}, RepF T F ρ fs fv → RepF T F ρ (putD f d fs) (putF f v fv)
  | _, _, .nil => .cons r .nil
  | (k, _) :: _, _, .cons h t => by
    unfold putD putF
    by_cases e : k = f
    · rw [if_pos e, if_pos e]; exact .cons r t
    · rw [if_neg e, if_neg e]; exact .cons h (RepF.put r t)
theorem RepF.none_of {T : Tab0} {F : Hp} {ρ : List Addr} {fs : List (Str × D)} {fv : List (Str × V)} {f : Str} (r : RepF T F ρ fs fv) (h : fs.lookup f = none) : fv.lookup f = none := by
  rcases r.look f with ⟨_, e⟩ | ⟨d, v, e, _⟩
  · exact e
  · rw [h] at e; cases e
theorem RepF.some_of {T : Tab0} {F : Hp} {ρ : List Addr} {fs : List (Str × D)} {fv : List (Str × V)} {f : Str} {d : D} (r : RepF T F ρ fs fv) (h : fs.lookup f = some d) : ∃ v, fv.lookup f = some v ∧ Rep T F ρ d v := by
  rcases r.look f with ⟨e, _⟩ | ⟨d', v, e, e2, q⟩
  · rw [h] at e; cases e
  · rw [h] at e; cases e; exact ⟨v, e2, q⟩
/-- o.f, o of the class c -/
def mFld (c f : Str) (o : ME) : ME := fun δ S => (o δ S).bind fun d S1 => match insOf S1 d with
  | some (_, c', fs) => if c' = c then match fs.lookup f with
      | some v => .ok v S1
      | none => .bad
    else .bad
  | none => .bad
/-- o.f = v -/
def mSetF (c f : Str) (o v : ME) : MS := fun δ S => (v δ S).then δ fun y S1 => (o δ S1).then δ fun d S2 => match insOf S2 d with
  | some (n, c', fs) => if c' = c ∧ fs.length < 1000 then .nx δ (S2.set n (.ins c (putD f y fs))) else .bad
  | none => .bad
/-- o.m(..), o of the class c -/
def mMth (c m : Str) (g : List D → Store → Out D) (o : ME) (a : MA) : ME := fun δ S => (o δ S).bind fun d S1 => match insOf S1 d with
  | some (_, c', fs) => if c' = c ∧ fs.lookup m = none then (a δ S1).bind fun ds S2 => g (d :: ds) S2 else .bad
  | none => .bad
/-- what __init__ gives is nothing; the object is there -/
def mkOut (n : Nat) : Out D → Out D
  | .ok .non S => .ok (.loc n) S
  | .exn c fs S => .exn c fs S
  | _ => .bad
/-- c(..), made -/
def mMk (c : Str) (g : List D → Store → Out D) (a : MA) : ME := fun δ S => (a δ S).bind fun ds S1 => mkOut S1.length (g (.loc S1.length :: ds) (S1 ++ [.ins c []]))
section
variable {X : Cx} {A : AP} {W : WX}
theorem se_fld {c f : Str} {o : Expr} {mo : ME} {pos : Pos} (hc : Cls X.K (A.a c)) (hn : NoAttr X.K (A.a c) f) (ho : SE X A W o mo) (hb : attributeBase o f X.env (eval o X.env) = eval o X.env := by rfl) : SE X A W (.Attribute o f pos) (mFld c f mo) :=
  PE.imp (pe_fld ho hb) fun σ H Q ⟨F, ρ, δ, S, rel, env, post⟩ => by
  refine (step (R1 := RD (tb X A)) rel env post).mono fun x H1 ⟨F1, ρ1, S1, d1, x1, rel1, env1, q1, p1⟩ => ?_
  split at p1
  · rename_i n c' fs hi
    obtain ⟨rfl, h1⟩ := insOf_inv hi
    split at p1
    · rename_i hcc
      subst hcc
      split at p1
      · rename_i v hv
        cases q1 with
        | loc h0 =>
          obtain ⟨dx, fv, h2, h3⟩ := rel1.insAt h1 h0
          obtain ⟨w, e1, e2⟩ := h3.some_of hv
          exact ⟨_, _, dx, fv, w, rfl, h2, hc, hn, e1, p1 F1 ρ1 H1 w (Ext.refl _ _) rel1 e2⟩
      · exact p1.elim
    · exact p1.elim
  · exact p1.elim
theorem ss_fld {c f : Str} {o value : Expr} {mo mv : ME} {pos pos' : Pos} (hc : Cls X.K (A.a c)) (hn : NoAttr X.K (A.a c) f) (ho : SE X A W o mo) (hv : SE X A W value mv) (hs : swapsWith value (some (.Attribute o f pos')) pos.line X.env = pure false := by rfl) :
    SS X A W (.Assign [.Attribute o f pos'] value pos) (mSetF c f mo mv) :=
  PS.imp (ps_fld ho hv hs) fun D σ H ⟨F, ρ, δ, S, rel, env, post⟩ => by
  refine (stepS (R1 := RD (tb X A)) rel env post).mono fun y H1 ⟨F1, ρ1, S1, d1, x1, rel1, env1, q1, p1⟩ => ?_
  refine (stepS (R1 := RD (tb X A)) rel1 env1 p1).mono fun x H2 ⟨F2, ρ2, S2, d2, x2, rel2, env2, q2, p2⟩ => ?_
  split at p2
  · rename_i n c' fs hi
    obtain ⟨rfl, h1⟩ := insOf_inv hi
    split at p2
    · rename_i hcc
      obtain ⟨rfl, hl⟩ := hcc
      cases q2 with
      | loc h0 =>
        obtain ⟨dx, fv, h2, h3⟩ := rel2.insAt h1 h0
        refine ⟨_, _, dx, fv, rfl, h2, hc, hn, by rw [← h3.len]; exact hl, ?_⟩
        exact p2 F2 ρ2 σ _ (Ext.refl _ _) (rel2.cellSet h1 (by simp) h0 ⟨(rel2.cell n _ _ h1 h0).1, dx, _, upd_same, h3.put (q1.mono x2)⟩) env2
    · exact p2.elim
  · exact p2.elim
/-- a method of an own class, called: what it may let out is wished for at the slots there are -/
theorem call_at {T : Tab} {W : WX} {σ : L2.St} {H : Hp} {Q : VK} {g : List D → Store → Out D} {n : Nat} {F : Hp} {ρ : List Addr} {S : Store} {ds : List D} {vs : List V} (rel : Rel T F ρ S H) (rs : Reps T F ρ ds vs) (hn : ∀ ds S, g ds S ≠ .bad → ds.length = n)
    (post : Post (RD T) T W σ F ρ Q (g ds S)) : spD T n g vs H Q (WE W σ) := by
  refine ⟨T.P, F, ρ, S, ds, rel, rs, hn _ S fun z => ?_, ?_⟩
  · rw [z] at post; exact post
  · revert post
    generalize g ds S = o
    cases o with
    | ok a S => exact fun p => p
    | exn c fs S => exact fun p => p
    | bad => exact fun p => p
theorem se_mth {k : Nat} {f : Addr} {fd : FuncData} {ps : List Str} {n : Nat} {g : List D → Store → Out D} {c m : Str} {o e : Expr} {es : List Expr} {mo : ME} {ms : MA} {pos apos : Pos} {pl : Sem Bool} (G : FnOk X.prog X.w X.K X.mg X.base (L2.CX X.prog X.w) k f fd ps (spD (t0 X A.a) n g))
    (hn : ∀ ds S, g ds S ≠ .bad → ds.length = n) (hr : Room k X.A) (hc : Cls X.K (A.a c)) (hm : Meth X.K (A.a c) m f) (hb : Binds X.K fd ps []) (tk : Takes X W) (ho : SE X A W o mo) (ha : SA X A W (e :: es) ms)
    (hst : starEach (e :: es) X.env = (false, eval e X.env) :: starEach es X.env := by rfl) (hpl : (backTo pos (starEach es X.env)).any (·.1) = false := by rfl)
    (ht : eval (.Call (.Attribute o m apos) (e :: es) [] pos) X.env = (do let ov ← eval o X.env; standAt apos.atName; let (f, first) ← holding [ov] (getMethod ov m pl); callWith pos f first (backTo pos (starEach (e :: es) X.env)) (backToKw pos (keywordEach [] X.env))) := by rfl) :
    SE X A W (.Call (.Attribute o m apos) (e :: es) [] pos) (mMth c m g mo ms) := by
  refine ⟨fun pins s σ H Q I ⟨F, ρ, δ, S, rel, env, post⟩ => ?_⟩
  refine PySem.W.methodCall_KW (pl := pl) (thn (ho.run pins s σ H _ I (step (R1 := RD (tb X A)) rel env post)) fun u s1 ⟨x, H1, I1, rx, F1, ρ1, S1, d1, x1, rel1, env1, q1, p1⟩ => ?_) ht
  split at p1
  · rename_i n' c' fs hi
    obtain ⟨rfl, h1⟩ := insOf_inv hi
    split at p1
    · rename_i hcc
      obtain ⟨rfl, hl⟩ := hcc
      cases q1 with
      | @loc _ a h0 =>
        obtain ⟨dx, fv, h2, h3⟩ := rel1.insAt h1 h0
        obtain rfl : u = Value.ref a := rx
        refine getmeth_ok I1 h2 hc hm (h3.none_of hl) ?_
        refine PySem.W.callWith_K (first := [.ref a]) (h₀ := X.base) I1.ok.mod.kin hm.kp (thn (ha.run pos pins s1 σ H1 _ I1 (step (R1 := RA (tb X A)) rel1 env1 p1)) fun us s2 ⟨vs, H2, I2, r, F2, ρ2, S2, ds, x2, rel2, env2, q2, p2⟩ => ⟨I2.kIn, ?_⟩) hst hpl
        exact run_fnS (us := .ref a :: us) (vs := .ref a :: vs) (E := WE W) G hr hb (passAt tk σ) I2 (.cons rfl r) (call_at (T := tb X A) rel2 (.cons (.loc (pre_get x2.pre h0)) q2) hn p2)
    · exact p1.elim
  · exact p1.elim
theorem se_mth0 {k : Nat} {f : Addr} {fd : FuncData} {ps : List Str} {n : Nat} {g : List D → Store → Out D} {c m : Str} {o : Expr} {mo : ME} {pos apos : Pos} {pl : Sem Bool} (G : FnOk X.prog X.w X.K X.mg X.base (L2.CX X.prog X.w) k f fd ps (spD (t0 X A.a) n g))
    (hn : ∀ ds S, g ds S ≠ .bad → ds.length = n) (hr : Room k X.A) (hc : Cls X.K (A.a c)) (hm : Meth X.K (A.a c) m f) (hb : Binds X.K fd ps []) (tk : Takes X W) (ho : SE X A W o mo)
    (ht : eval (.Call (.Attribute o m apos) [] [] pos) X.env = (do let ov ← eval o X.env; standAt apos.atName; let (f, first) ← holding [ov] (getMethod ov m pl); callWith pos f first (backTo pos (starEach [] X.env)) (backToKw pos (keywordEach [] X.env))) := by rfl) :
    SE X A W (.Call (.Attribute o m apos) [] [] pos) (mMth c m g mo aNil) := by
  refine ⟨fun pins s σ H Q I ⟨F, ρ, δ, S, rel, env, post⟩ => ?_⟩
  refine PySem.W.methodCall_KW (pl := pl) (thn (ho.run pins s σ H _ I (step (R1 := RD (tb X A)) rel env post)) fun u s1 ⟨x, H1, I1, rx, F1, ρ1, S1, d1, x1, rel1, env1, q1, p1⟩ => ?_) ht
  split at p1
  · rename_i n' c' fs hi
    obtain ⟨rfl, h1⟩ := insOf_inv hi
    split at p1
    · rename_i hcc
      obtain ⟨rfl, hl⟩ := hcc
      cases q1 with
      | @loc _ a h0 =>
        obtain ⟨dx, fv, h2, h3⟩ := rel1.insAt h1 h0
        obtain rfl : u = Value.ref a := rx
        refine getmeth_ok I1 h2 hc hm (h3.none_of hl) ?_
        exact PySem.W.callWith_K0 (first := [.ref a]) I1.kIn hm.kp (run_fnS (us := [.ref a]) (vs := [.ref a]) (E := WE W) G hr hb (passAt tk σ) I1 (.cons rfl .nil) (call_at (T := tb X A) rel1 (.cons (.loc h0) .nil) hn p1))
    · exact p1.elim
  · exact p1.elim
/-! making -/
theorem make_at {T : Tab} {W : WX} {σ : L2.St} {H : Hp} {Q : VK} {g : List D → Store → Out D} {n : Nat} {F : Hp} {ρ : List Addr} {S : Store} {ds : List D} {vs : List V} {c : Str} (rel : Rel T F ρ S H) (rs : Reps T F ρ ds vs) (hn : ∀ ds S, g ds S ≠ .bad → ds.length = n)
    (post : Post (RD T) T W σ F ρ Q (mkOut S.length (g (.loc S.length :: ds) (S ++ [.ins c []])))) {x dx : Addr} (hx : H x = none) (hd : H dx = none) (ne : dx ≠ x) :
    spD T n g (.ref x :: vs) (upd (upd H dx (.own x)) x (.ins (T.A c) dx [])) (fun v H2 => v = .non ∧ Q (.ref x) H2) (WE W σ) := by
  have r1 := rel.same (same_new (o := .own x) hd)
  have hx' : (upd H dx (.own x)) x = none := by rw [upd_ne (Ne.symm ne)]; exact hx
  have ext : Ext F ρ F (ρ ++ [x]) := ⟨Le.refl F, List.prefix_append ρ [x]⟩
  have r2 : Rel T F (ρ ++ [x]) (S ++ [.ins c []]) (upd (upd H dx (.own x)) x (.ins (T.A c) dx [])) := r1.cellNew (c := .ins c []) hx' ⟨rel.freeF hx, dx, [], upd_same, .nil⟩ (by simp)
  have hloc : (ρ ++ [x])[S.length]? = some x := by rw [← rel.len, List.getElem?_concat_length]
  refine ⟨T.P, F, ρ ++ [x], S ++ [.ins c []], .loc S.length :: ds, r2, .cons (.loc hloc) (rs.mono ext), hn _ (S ++ [.ins c []]) fun z => ?_, ?_⟩
  · rw [z] at post; exact post
  · revert post
    generalize g (.loc S.length :: ds) (S ++ [.ins c []]) = o
    cases o with
    | bad => exact fun p => p
    | exn c fs S => exact fun p => Post.mono (o := (Out.exn c fs S : Out D)) p ext
    | ok d S2 =>
      cases d with
      | non =>
        intro p F' ρ' H' b x' rel' q
        cases q
        exact ⟨rfl, p F' ρ' H' (.ref x) (ext.trans x') rel' (.loc (pre_get x'.pre hloc))⟩
      | _ => exact fun p => p.elim
theorem run_mkS {k : Nat} {C f : Addr} {fd : FuncData} {ps : List Str} {sp : Sp} {E : L2.St → XK} {pins : List (Addr × Obj)} {σ : L2.St} {H : Hp} {s : Shared} {Q : VK} {us : List Value} {vs : List V} (M : Mk X.K C f) (F : FnOk X.prog X.w X.K X.mg X.base (L2.CX X.prog X.w) k f fd ps sp) (hr : Room (k + 1) X.A) (hb : Binds X.K fd ps [])
    (hx : PassesAt (L2.CX X.prog X.w) X σ (E σ)) (I : Inv X pins σ H s) (r : Vals vs us) (h : ∀ x dx, H x = none → H dx = none → dx ≠ x → sp (.ref x :: vs) (upd (upd H dx (.own x)) x (.ins C dx [])) (fun v H2 => v = .non ∧ Q (.ref x) H2) (E σ)) :
    wpAny (model X.prog X.w) X.A (call (.ref C) us) (EP X pins σ Q) X.xe s := by
  let z := s.heap.objs.size
  have J := Inv.made (C := C) I
  have q0 := h (z + 1) z (I.hok.fresh (Nat.le_succ _)) (I.hok.fresh (Nat.le_refl _)) (Nat.ne_of_lt (Nat.lt_succ_self _))
  have rr : Vals (V.ref (z + 1) :: vs) (Value.ref (z + 1) :: us) := .cons rfl r
  have ll : (Value.ref (z + 1) :: us ++ []).length = ps.length := by
    rw [List.append_nil, ← rr.length]; exact F.len _ _ _ _ q0
  have bb := hb _ (Value.ref (z + 1) :: us) J.kIn ll
  rw [List.append_nil] at bb
  have body := F.run _ X.stack _ _ ⟨Value.ref (z + 1) :: us, []⟩ (Value.ref (z + 1) :: us) _ _ (E σ) (hr.make C us []) (J.env0.make C us []) bb rr q0
  refine wpAny_call (make_map (f := f) I.kIn M.makes M.init (beq_iff_eq.mp M.fn) (codeAny_mono body fun o s' ho => ?_))
  cases o with
  | error e => exact hx pins _ _ e s' J ho
  | ok fl =>
    cases fl with
    | ret u => obtain ⟨v, H', K', rv, ev, q3⟩ := J.after ho; subst ev; exact ⟨rv, ⟨V.ref (z + 1), H', K', rfl, q3⟩⟩
    | next => exact False.elim ho
    | brk => exact False.elim ho
    | cont => exact False.elim ho
theorem se_mk {k : Nat} {f : Addr} {fd : FuncData} {ps : List Str} {n : Nat} {g : List D → Store → Out D} {c : Str} {e : Expr} {es : List Expr} {ms : MA} {p pos : Pos} (M : Mk X.K (A.a c) f) (G : FnOk X.prog X.w X.K X.mg X.base (L2.CX X.prog X.w) k f fd ps (spD (t0 X A.a) n g))
    (hn : ∀ ds S, g ds S ≠ .bad → ds.length = n) (hr : Room (k + 1) X.A) (hm : X.mg c = some (.ref (A.a c))) (hb : Binds X.K fd ps []) (tk : Takes X W) (ha : SA X A W (e :: es) ms) (hg : Gl X c := by rfl)
    (hdb : (c == ("__debug__" : Str)) = false := by decide) (he : starEach (e :: es) X.env = (false, eval e X.env) :: starEach es X.env := by rfl) (hpl : (backTo pos (starEach es X.env)).any (·.1) = false := by rfl) :
    SE X A W (.Call (.Name c p) (e :: es) [] pos) (mMk c g ms) := by
  refine ⟨fun pins s σ H Q I ⟨F, ρ, δ, S, rel, env, post⟩ => ?_⟩
  refine wpAny_Call_Name_kw (ld_glob I hg hm ?_ hdb)
  refine PySem.W.callWith_K (h₀ := X.base) I.ok.mod.kin M.kp (thn (ha.run pos pins s σ H _ I (step (R1 := RA (tb X A)) rel env post)) fun us s1 ⟨vs, H1, I1, r, F1, ρ1, S1, ds, x1, rel1, env1, q1, p1⟩ => ⟨I1.kIn, ?_⟩) he hpl
  exact run_mkS (E := WE W) M G hr hb (passAt tk σ) I1 r fun x dx hx hd ne => make_at (T := tb X A) rel1 q1 hn p1 hx hd ne
end
/-! ### running -/
section
variable {δ : Dn} {S : Store}
@[simp] theorem ap_fld (c f : Str) (o : ME) : mFld c f o δ S = (o δ S).bind fun d S1 => match insOf S1 d with
  | some (_, c', fs) => if c' = c then match fs.lookup f with
      | some v => .ok v S1
      | none => .bad
    else .bad
  | none => .bad := (rfl)
@[simp] theorem ap_setF (c f : Str) (o v : ME) : mSetF c f o v δ S = (v δ S).then δ fun y S1 => (o δ S1).then δ fun d S2 => match insOf S2 d with
  | some (n, c', fs) => if c' = c ∧ fs.length < 1000 then .nx δ (S2.set n (.ins c (putD f y fs))) else .bad
  | none => .bad := (rfl)
@[simp] theorem ap_mth (c m : Str) (g : List D → Store → Out D) (o : ME) (a : MA) : mMth c m g o a δ S = (o δ S).bind fun d S1 => match insOf S1 d with
  | some (_, c', fs) => if c' = c ∧ fs.lookup m = none then (a δ S1).bind fun ds S2 => g (d :: ds) S2 else .bad
  | none => .bad := (rfl)
@[simp] theorem ap_mk (c : Str) (g : List D → Store → Out D) (a : MA) : mMk c g a δ S = (a δ S).bind fun ds S1 => mkOut S1.length (g (.loc S1.length :: ds) (S1 ++ [.ins c []])) := (rfl)
@[simp] theorem mkOut_ok (n : Nat) : mkOut n (.ok .non S) = .ok (.loc n) S := (rfl)
@[simp] theorem mkOut_exn (n : Nat) (c : Str) (fs : List (Str × D)) : mkOut n (.exn c fs S) = .exn c fs S := (rfl)
end
end Dee

set_option maxRecDepth 100000
set_option maxHeartbeats 4000000
namespace Dee
open PySem PySem.Spec L2 PyProof.Rows
/-! ### an exception that is caught, and held behind its try -/
/-- an object that was pinned is told from here on -/
theorem adopt {X : Cx} {pins : List (Addr × Obj)} {σ : L2.St} {H : Hp} {s : Shared} {a : Addr} {oe : Obj} {vs : Array Value} {cls : Value} {d : Option Addr} (I : Inv X ((a, oe) :: pins) σ H s) (h0 : X.s_0.heap.get? a = none) (hz : Zc cls d oe) (hd : oe.data = .fields vs)
    (hp : ∀ p ∈ X.pn ++ pins, p.1 ≠ a) : Inv X pins σ (upd H a (ExH cls d a)) s := by
  obtain ⟨g1, g2, g3, g4, g5⟩ := I.pin (a, oe) (List.mem_append_right _ List.mem_cons_self)
  have off : ∀ {b : Addr} {u : HO}, H b = some u → upd H a (ExH cls d a) b = some u := fun {b u} e => by rw [upd_ne (ne_of_none e g2)]; exact e
  exact {
    ok := I.ok, os := I.os, bare := I.bare, loc := I.loc, cell := I.cell, len := I.len
    base := {
      keep := I.base.keep, slot := I.base.slot, there := I.base.there
      free := fun b o e n x => by
        have ne : b ≠ a := fun z => by rw [z, h0] at e; cases e
        rw [upd_ne ne]; exact I.base.free b o e n x
      tups := fun b xs e => off (I.base.tups b xs e)
      frzs := fun b o u e => off (I.base.frzs b o u e)
      tbls := fun b ps e => let ⟨m, q⟩ := I.base.tbls b ps e; ⟨m, off q⟩ }
    free := by rw [upd_ne (Ne.symm g3)]; exact I.free
    freeC := fun x c e => by
      have ne : c ≠ a := fun z => by
        obtain ⟨v, o, ho, hv⟩ := I.cell x c e
        rw [z, g1] at ho; cases ho
        exact g5 _ hv
      rw [upd_ne ne]; exact I.freeC x c e
    pin := fun p m => by
      have m' : p ∈ X.pn ++ ((a, oe) :: pins) := by
        rcases List.mem_append.mp m with m | m
        · exact List.mem_append_left _ m
        · exact List.mem_append_right _ (List.mem_cons_of_mem _ m)
      obtain ⟨q1, q2, q3⟩ := I.pin p m'
      exact ⟨q1, by rw [upd_ne (hp p m)]; exact q2, q3⟩
    hok := fun b u e => by
      by_cases hb : b = a
      · subst hb
        rw [upd_same] at e; cases e
        exact ⟨⟨oe, vs, g1, hz, hd⟩, ⟨oe, g1⟩, fun h1 h2 ⟨o, v, e1, e2, e3⟩ k => ⟨o, v, k _ e1, e2, e3⟩⟩
      · rw [upd_ne hb] at e
        exact (I.hok b u e).stay (fun _ _ _ q => q) (fun _ q => off q) fun _ _ q => off q }
/-- what 'except x as n: y = n' wishes of an exception of the body -/
def wHeld (K : PySem.W.Frag) (c : Value) (i j : Nat) (Wo : WX) (D : Ends) : WX := fun cls d σ H =>
  ∃ b, PySem.W.exmOne K cls c = some b ∧ (b = true → ∀ a, H a = none → D.nx (((σ.set i (some (.ref a))).set j (some (.ref a))).set i none) (upd H a (ExH cls d a))) ∧ (b = false → Wo cls d σ H)
section
variable {X : Cx} {x n y : Str} {c : Value} {i j : Nat} {body : List Stmt} {np ep yp ap pos pos' : Pos} {tb : WX → TS} {Wo : WX}
theorem ps_try_held (hs : X.stack = X.env :: X.outer) (hf : X.env.frame = some X.env.locals) (hex : X.ex = []) (hN : X.N.Nodup) (hi : X.N[i]? = some n) (hln : X.env.kindOf n = some .local) (hc : Names X x c) (tk : Takes X Wo)
    (hb : ∀ (W : WX) (pn : List (Addr × Obj)) (xe : Value → Shared → Prop), Takes (X.tr pn xe) W → PassesOwn (model X.prog X.w) X.A X.env xe → PSs (X.tr pn xe) body (tb W))
    (hsu : ∀ (a : Addr) (pn : List (Addr × Obj)), PS (X.suite a pn) (.Assign [.Name y yp] (.Name n ep) ap) (fun D σ H => ∃ v, σ[i]? = some (some v) ∧ D.nx (σ.set j (some v)) H)) :
    PS X (.Try body [.ExceptHandler (some (.Name x np)) (some n) [.Assign [.Name y yp] (.Name n ep) ap] pos'] [] [] pos) (fun D σ H => tb (wHeld X.K c i j Wo D) D σ H) := by
  refine ⟨fun pins s σ H D I h => wpAny_Try_except ?_⟩
  have okX := I.ok
  have frX : X.A.frames = some (X.env :: X.outer) := okX.frames.trans (congrArg some hs)
  have inL : i < X.N.length := (List.getElem?_eq_some_iff.mp hi).1
  have run := (hb (wHeld X.K c i j Wo D) (X.pn ++ pins) (fun e t => wpAny (model X.prog X.w) X.A (noteFrame e X.env) (fun _ t2 => wpAny (model X.prog X.w) X.A (setFlight e none) (fun _ t3 =>
    wpAny (model X.prog X.w) X.A (handleBy e X.env [.ExceptHandler (some (.Name x np)) (some n) [.Assign [.Name y yp] (.Name n ep) ap] pos']) (SP X pins D) X.xe t3) X.xe t2) X.xe t) (fun u t air => ?_) PassesOwn.looking).run [] s σ H D (I.toTry _) h
  · refine wpAny_mono run (fun fl t q => ?_) fun _ _ z => z
    cases fl with
    | next => obtain ⟨σ1, H1, J1, q1⟩ := q; exact wpAny_execs_nil ⟨σ1, H1, J1.ofTry okX, q1⟩
    | brk => obtain ⟨σ1, H1, J1, q1⟩ := q; exact ⟨σ1, H1, J1.ofTry okX, q1⟩
    | cont => obtain ⟨σ1, H1, J1, q1⟩ := q; exact ⟨σ1, H1, J1.ofTry okX, q1⟩
    | ret u => obtain ⟨v, σ1, H1, J1, r1, q1⟩ := q; exact ⟨v, σ1, H1, J1.ofTry okX, r1, q1⟩
  · obtain ⟨a, B, sI, pins1, σ1, H1, cls, d, rfl, J0, nb, up, sky, na, os, ag, b, hb1, yes, no⟩ := air
    have J : Inv X pins σ1 H1 sI := J0.ofTry okX
    have Ba : B.get? a = none := by rcases sky with z | z | z <;> exact z.2.1
    have sky' : Sky B (X.env :: X.outer) a (Zc cls d) X.env.locals t.heap := hs ▸ sky
    refine Sky.land Zc.steady frX hf sky' fun h3 fl3 up3 => ?_
    have land : ∀ {h : Heap}, HandSPX.FlyingZ B (X.env :: X.outer) a (Zc cls d) h → t.heap.UpToSlots h → Inv X pins σ1 H1 { t with heap := h } := fun {h} fl u => J.landed nb fl.1 (up.trans u) os ag
    have J3 := land fl3 up3
    obtain ⟨o3, v3, e3, z3, d3⟩ := fl3.there
    have nfr : a ∉ frs (X.env :: X.outer) := fun hm => by
      obtain ⟨_, o, eo, nf⟩ := fl3.2.2.1.mem hm
      rw [e3] at eo; cases eo; exact nf _ d3
    have nL : a ≠ X.env.locals := fun z => nfr (List.mem_filterMap.mpr ⟨X.env, List.mem_cons_self, by rw [hf, z]⟩)
    have nF : a ∉ X.fs := fun hm => by
      obtain ⟨e, he, q⟩ := List.mem_filterMap.mp hm
      exact nfr (List.mem_filterMap.mpr ⟨e, List.mem_cons_of_mem _ he, q⟩)
    have sIa : sI.heap.get? a = none := by
      cases q : sI.heap.get? a with
      | none => rfl
      | some o => have := nb a o q (by rw [hs]; exact nfr); rw [Ba] at this; cases this
    have s0a : X.s_0.heap.get? a = none := by
      cases q : X.s_0.heap.get? a with
      | none => rfl
      | some o => obtain ⟨o', q'⟩ := J.base.there a o q (by rw [hex]; simp); rw [sIa] at q'; cases q'
    have pna : ∀ p ∈ X.pn ++ pins, p.1 ≠ a := fun p m z => by
      have := (J.pin p m).1
      rw [z, sIa] at this; cases this
    have S3 := J3.suite e3 d3 na nL nF
    refine wpAny_handleBy_cons (codeAny_handlers_test ?_) (by intro q; cases q)
    have LT : PySem.W.Looks (model X.prog X.w) h3 (typeOf (.ref a)) cls := fun A Q E s k q => wpAny_typeOf_ref (k _ _ e3) (by rw [z3.1]; exact q)
    have LM := PySem.W.exm_one (M := model X.prog X.w) J3.kIn LT hb1
    have look : ∀ {Q E : Value → Shared → Prop}, Q c { t with heap := h3 } → wpAny (model X.prog X.w) (X.A.mark (some (.ref a))) (eval (.Name x np) X.env) Q E { t with heap := h3 } := fun {Q E} q => by
      rcases hc with ⟨hg, hdb, hm | ⟨hm, hv, hnn⟩⟩
      · exact ld_glob (X := X.suite a ((a, o3) :: (X.pn ++ pins))) S3 hg hm q hdb
      · exact ld_blt (X := X.suite a ((a, o3) :: (X.pn ++ pins))) S3 hg hm hv q hnn hdb
    refine look (LM.here ?_)
    cases b with
    | true =>
      refine codeAny_handlers_suite_as (HandSPX.lands_againZ fl3 fun h4 fl4 up4 => ?_)
      have J4 := land fl4 (up3.trans up4)
      obtain ⟨o4, v4, e4, z4, d4⟩ := fl4.there
      have S4 := J4.suite e4 d4 na nL nF
      refine store_ok (X := X.suite a ((a, o4) :: (X.pn ++ pins))) (v := .ref a) S4 hN hi (.inl hln) rfl (fun s5 S5 => ?_) (.inr hln)
      have il : i < σ1.length := by rw [J4.len]; exact inL
      refine wpAny_mono ((pss_one (hsu a ((a, o4) :: (X.pn ++ pins)))).run [] s5 _ H1 { nx := fun σ6 H6 => σ6 = (σ1.set i (some (.ref a))).set j (some (.ref a)) ∧ H6 = H1, rt := fun _ _ => False, bk := fun _ _ => False, ct := fun _ _ => False } S5 ⟨.ref a, List.getElem?_set_self il, rfl, rfl⟩) (fun fl s6 hsp => ?_) fun _ _ z => False.elim z
      cases fl with
      | next =>
        obtain ⟨σ6, H6, S6, rfl, rfl⟩ := hsp
        have J6 : Inv X ((a, o4) :: pins) _ H6 s6 := ⟨okX, S6.os, S6.bare, S6.base, S6.loc, S6.cell, S6.free, S6.freeC, fun p m => S6.pin p (by
          rw [List.append_nil]
          rcases List.mem_append.mp m with m | m
          · exact List.mem_cons_of_mem _ (List.mem_append_left _ m)
          · rcases List.mem_cons.mp m with m | m
            · rw [m]; exact List.mem_cons_self
            · exact List.mem_cons_of_mem _ (List.mem_append_right _ m)), S6.hok, S6.len⟩
        exact gone_ok J6 hN hi hln fun s7 J7 => ⟨_, _, adopt J7 s0a z4 d4 pna, yes rfl a na⟩
      | brk => obtain ⟨_, _, _, z⟩ := hsp; exact z.elim
      | cont => obtain ⟨_, _, _, z⟩ := hsp; exact z.elim
      | ret u => obtain ⟨_, _, _, _, _, z⟩ := hsp; exact z.elim
    | false =>
      refine wpAny_handleBy_nil ?_
      obtain ⟨k1, k2, k3, oe, vs, T, oT, ts, he, hz, hd, h1, hr⟩ := id fl3
      unfold PySem.passOn
      refine wpAny_bind (wpAny_field he hd h1 ?_)
      rw [if_neg (show ¬ ((Value.ref T == Value.none) = true) by simp)]
      have fin : wpAny (model X.prog X.w) X.A (setFlight (.ref a) X.env.frame) (fun _ t4 => wpAny (model X.prog X.w) X.A (throw (.ref a) : Sem Flow) (SP X pins D) X.xe t4) X.xe { t with heap := h3 } := by
        rw [hf]
        exact HandSPX.setFlight_upZ fl3 fun h4 hh4 up4 => wpAny_throw (tk _ _ ⟨a, B, sI, pins, σ1, H1, cls, d, rfl, J, nb, (up.trans up3).trans up4, .inr (.inr (by rw [hs]; exact hh4)), na, os, ag, no rfl⟩)
      first
        | exact wpAny_bind (wpAny_pure (wpAny_bind fin))
        | exact wpAny_bind fin
end
end Dee

set_option maxRecDepth 100000
set_option maxHeartbeats 4000000
namespace Dee
open PySem PySem.Spec L2 PyProof.Rows
/-! ### try: .. except C as e: held = e -/
def mTryH (ok : Str → Option Bool) (i j : Nat) (b : MS) : MS := fun δ S => match b δ S with
  | .exn c fs δ1 S1 => match ok c with
    | some true => .nx ((δ1.set j (some (.exc c fs))).set i none) S1
    | some false => .exn c fs δ1 S1
    | none => .bad
  | o => o
theorem excR_rep {T : Tab} {F : Hp} {ρ : List Addr} {c : Str} {fs : List (Str × D)} {cl : Value} {dd : Option Addr} {a : Addr} (r : ExcR T F ρ c fs cl dd) (ha : F a = none) : Rep T (upd F a (ExH cl dd a)) ρ (.exc c fs) (.ref a) := by
  have x : Ext F ρ (upd F a (ExH cl dd a)) ρ := ⟨.of (same_new ha), List.prefix_refl ρ⟩
  obtain ⟨rfl, h⟩ := r
  rcases h with ⟨rfl, rfl⟩ | ⟨d, fv, rfl, h1, h2⟩
  · exact .exc upd_same
  · exact .excd upd_same (by rw [upd_ne (ne_of_none h1 ha)]; exact h1) (h2.mono x)
theorem EnvR.held {T : Tab0} {F : Hp} {ρ : List Addr} {δ : Dn} {σ : L2.St} (h : EnvR T F ρ δ σ) {i j : Nat} {d : D} {v u : V} (r : Rep T F ρ d v) : EnvR T F ρ ((δ.set j (some d)).set i none) (((σ.set i (some u)).set j (some v)).set i none) := by
  refine ⟨by simp only [List.length_set]; exact h.1, fun k x e => ?_⟩
  by_cases hi : i = k
  · subst hi
    have hl : i < ((δ.set j (some d)).set i none).length := (List.getElem?_eq_some_iff.mp e).1
    rw [List.length_set] at hl
    rw [List.getElem?_set_self hl] at e; cases e
  · rw [List.getElem?_set_ne hi] at e ⊢
    by_cases hj : j = k
    · subst hj
      have hl : j < (δ.set j (some d)).length := (List.getElem?_eq_some_iff.mp e).1
      rw [List.length_set] at hl
      rw [List.getElem?_set_self hl] at e; cases e
      exact ⟨v, List.getElem?_set_self (by rw [List.length_set, ← h.1]; exact hl), r⟩
    · rw [List.getElem?_set_ne hj] at e ⊢
      rw [List.getElem?_set_ne hi]
      exact h.2 k x e
section
variable {X : Cx} {A : AP} {W : WX}
theorem ss_tryH {ok : Str → Option Bool} {x n y : Str} {cv : Value} {i j : Nat} {body : List Stmt} {mb : MS} {np ep yp ap pos pos' : Pos} (hok : ∀ c b, ok c = some b → PySem.W.exmOne X.K (.ref (A.a c)) cv = some b)
    (hs : X.stack = X.env :: X.outer) (hf : X.env.frame = some X.env.locals) (hex : X.ex = []) (hN : X.N.Nodup) (hc : Names X x cv) (tk : Takes X W)
    (hb : ∀ (W' : WX) (pn : List (Addr × Obj)) (xe : Value → Shared → Prop), Takes (X.tr pn xe) W' → PassesOwn (model X.prog X.w) X.A X.env xe → SSs (X.tr pn xe) A W' body mb)
    (hi : X.N[i]? = some n := by rfl) (hj : X.N[j]? = some y := by rfl) (hln : X.env.kindOf n = some .local := by rfl) (hln' : X.env.scope.names.lookup n = some .local := by rfl) (hly : X.env.scope.names.lookup y = some .local := by rfl) (hsw : swapsWith (.Name n ep) (some (.Name y yp)) ap.line X.env = pure false := by rfl)
    (hd : (n == ("__debug__" : Str)) = false := by decide) (hcd : (n == ("__classdict__" : Str)) = false := by decide) :
    SS X A W (.Try body [.ExceptHandler (some (.Name x np)) (some n) [.Assign [.Name y yp] (.Name n ep) ap] pos'] [] [] pos) (mTryH ok i j mb) :=
  PS.imp (ps_try_held (i := i) (j := j) (Wo := W) (tb := fun W' => tS (tb X A) W' mb) hs hf hex hN hi hln hc tk (fun W' pn xe tk' ps => hb W' pn xe tk' ps) fun a pn => ps_set (X := X.suite a pn) (i := j) hN hj (.inl hly) (pe_var (X := X.suite a pn) (i := i) hi (.inl hln') hd hcd) hsw (.inr hly)) fun D σ H ⟨F, ρ, δ, S, rel, env, post⟩ => by
  refine ⟨F, ρ, δ, S, rel, env, ?_⟩
  unfold mTryH at post
  revert post
  cases mb δ S with
  | nx δ1 S1 => exact fun p => p
  | rt d S1 => exact fun p => p
  | bk δ1 S1 => exact fun p => p
  | ct δ1 S1 => exact fun p => p
  | bad => exact fun p => p
  | exn c fs δ1 S1 =>
    intro p F1 ρ1 σ1 H1 cl dd x1 r1 e1 q1
    dsimp only at p
    split at p
    · rename_i ho
      refine ⟨true, by rw [q1.1]; exact hok _ _ ho, fun _ a ha => ?_, fun z => by cases z⟩
      obtain ⟨r2, x2⟩ := r1.new (o := ExH cl dd a) ha
      exact p _ _ _ _ (x1.trans x2) r2 ((e1.mono x2).held (excR_rep q1 (r1.freeF ha)))
    · rename_i ho
      exact ⟨false, by rw [q1.1]; exact hok _ _ ho, fun z => (nomatch z), fun _ => p F1 ρ1 σ1 H1 cl dd x1 r1 e1 q1⟩
    · exact p.elim
/-! ### isinstance -/
/-- what the written part says of an exception's class -/
structure XcK (K : PySem.W.Frag) (C : Addr) : Prop where
  cl : (PySem.W.clsIn K C).isSome = true
  ga : PySem.W.findIn K (.ref C) "__getattribute__" = some (some (.builtin "BaseException.__getattribute__"))
  gg : PySem.W.findIn K (.ref C) "__getattr__" = some none
  sub : PySem.W.subIn K (.ref C) (.type "BaseException") = some true
  ca : PySem.W.findIn K (.ref C) "__class__" = some (some (.builtin "object.__class__"))
  gt : PySem.W.specialIn K (.builtin "object.__class__") "__get__" = some (some (.builtin "getset_descriptor.__get__"))
  tk : PySem.W.takesIn K (.builtin "object.__class__") = some true
  mo : PySem.W.mroIn K C (.type "object") = some true
def tyD (S : Store) : D → Option (String ⊕ Str)
  | .non => some (.inl "NoneType") | .bl _ => some (.inl "bool") | .int _ => some (.inl "int") | .str _ => some (.inl "str") | .tup _ => some (.inl "tuple") | .exc c _ => some (.inr c)
  | d => match asL S d with
    | some _ => some (.inl "list")
    | none => none
def mIsi (t : String ⊕ Str → Option Bool) (a : ME) : ME := fun δ S => (a δ S).bind fun d S1 => match (tyD S1 d).bind t with
  | some b => .ok (.bl b) S1
  | none => .bad
/-- in a type's or a class's table -/
def isTab (tb : List (String × Bool)) (tx : List (Str × Bool)) : String ⊕ Str → Option Bool
  | .inl n => tb.lookup n
  | .inr c => tx.lookup c
theorem exh_at {pins : List (Addr × Obj)} {σ : L2.St} {H : Hp} {s : Shared} {C a : Addr} {d : Option Addr} (I : Inv X pins σ H s) (h : H a = some (ExH (.ref C) d a)) (hd : ∀ x, d = some x → ∃ fv, H x = some (.xd fv)) : ∃ oe od, PySem.W.InstAt s.heap a oe C od := by
  obtain ⟨⟨oe, vs, e1, ⟨z1, z2⟩, e3⟩, _, _⟩ := (show ObjOk X.prog X.w H s.heap a (.ext fun h => ∃ (oe : Obj) (vs : Array Value), h.get? a = some oe ∧ Zc (.ref C) d oe ∧ oe.data = .fields vs) from I.hok a _ h)
  cases d with
  | none => exact ⟨oe, none, e1, z1, by unfold PySem.W.notCls; rw [e3] <;> rfl, by rw [z2]; trivial⟩
  | some x =>
    obtain ⟨fv, hx⟩ := hd x rfl
    obtain ⟨mA, hns, _⟩ := (show ObjOk X.prog X.w H s.heap x (.xd fv) from I.hok x _ hx)
    obtain ⟨od, ho, _⟩ := lookIn_ns hns
    exact ⟨oe, some od, e1, z1, by unfold PySem.W.notCls; rw [e3] <;> rfl, by rw [z2]; exact ho⟩
theorem se_isi {t : String ⊕ Str → Option Bool} {e : Expr} {x : Str} {cv : V} {u : Value} {me : ME} {p p2 pos : Pos} (hm : X.mg "isinstance" = none) (hC : PE X (.Name x p2) (tC cv)) (k : ClsV cv u) (h1 : ∀ n b, t (.inl n) = some b → PySem.W.kitOne X.K (.type n) u = some b) (h2 : ∀ c b, t (.inr c) = some b → PySem.W.kitOne X.K (.ref (A.a c)) u = some b ∧ XcK X.K (A.a c))
    (he : SE X A W e me) (hg : Gl X "isinstance" := by rfl) (hs : starEach [e, .Name x p2] X.env = [(false, eval e X.env), (false, eval (.Name x p2) X.env)] := by rfl) (hs2 : starEach [.Name x p2] X.env = [(false, eval (.Name x p2) X.env)] := by rfl) :
    SE X A W (.Call (.Name "isinstance" p) [e, .Name x p2] [] pos) (mIsi t me) := by
  have hcall : CallR X (.builtin "isinstance") (fun xs H Q => ∃ (y : V) (F : Hp) (ρ : List Addr) (S : Store) (d : D) (b : Bool), xs = [y, cv] ∧ Rel (tb X A) F ρ S H ∧ Rep (tb X A) F ρ d y ∧ (tyD S d).bind t = some b ∧ Q (.bl b) H) := by
    intro pins s σ H xs us Q I r h
    obtain ⟨y, F, ρ, S, d, b, rfl, rel, rd, et, q⟩ := h
    obtain ⟨u1, u2, rfl, r1, r2⟩ := vals2 r
    have e2 := k.eq r2
    subst e2
    have blt : ∀ n, t (.inl n) = some b → TyX X.K H y (.type n) → wpAny (model X.prog X.w) X.A (call (.builtin "isinstance") [u1, u2]) (EP X pins σ Q) X.xe s := fun n hn ty => by
      obtain ⟨P, Z, p, hx⟩ := kit_of I r1 ty
      exact PySem.W.kia_one Z I.kIn p (h1 n b hn) hx fun tk => ⟨.bl b, H, I.tok tk, rfl, q⟩
    have exc : ∀ c a d, t (.inr c) = some b → y = .ref a → H a = some (ExH (.ref (A.a c)) d a) → (∀ x, d = some x → ∃ fv, H x = some (.xd fv)) → wpAny (model X.prog X.w) X.A (call (.builtin "isinstance") [u1, u2]) (EP X pins σ Q) X.xe s := fun c a d hc ey ha hd => by
      subst ey
      obtain rfl : u1 = Value.ref a := r1
      obtain ⟨ek, xk⟩ := h2 c b hc
      obtain ⟨oe, od, J⟩ := exh_at I ha hd
      exact PySem.W.kia_one (PySem.W.kitx_exc (x := a) (ox := oe) (od := od) xk.cl xk.ga xk.gg xk.sub xk.ca xk.gt xk.tk xk.mo) I.kIn J ek (fun z => nomatch z) fun tk => ⟨.bl b, H, I.tok tk, rfl, q⟩
    have lst : ∀ ds, t (.inl "list") = some b → asL S d = some ds → wpAny (model X.prog X.w) X.A (call (.builtin "isinstance") [u1, u2]) (EP X pins σ Q) X.xe s := fun ds hn hl => by
      obtain ⟨p, vs, rfl, hs, _⟩ := rel.asL rd hl
      rcases hs with (hs | ⟨o, hs⟩) | ⟨o, its, n, h1, h2, _⟩
      · exact blt _ hn (.base (.lst hs))
      · exact blt _ hn (.base (.frz hs))
      · exact blt _ hn (.kList h1 h2)
    cases rd with
    | non => exact blt _ et (.base .non)
    | bl z => exact blt _ et (.base (.bl z))
    | int z => exact blt _ et (.base (.int z))
    | str z => exact blt _ et (.base (.str z))
    | tup h0 r0 =>
      rcases rel.sub.tup h0 with (hs | ⟨o, hs⟩) | ⟨o, its, n, h1, h2, _⟩
      · exact blt _ et (.base (.tup hs))
      · exact blt _ et (.fTuple hs)
      · exact blt _ et (.kTuple h1 h2)
    | exc h0 => exact exc _ _ _ et rfl (rel.sub.ex h0 ExH.nd) fun x z => by cases z
    | excd h0 h3 r0 => exact exc _ _ _ et rfl (rel.sub.ex h0 ExH.nd) fun x z => by cases z; exact ⟨_, rel.sub.ex h3 (fun _ z => by cases z)⟩
    | lst h0 r0 => exact lst _ et rfl
    | rol h0 r0 => exact lst _ et rfl
    | loc h0 =>
      unfold tyD at et
      dsimp only at et
      split at et
      · rename_i ds hl; exact lst ds et hl
      · cases et
    | dct h0 r0 => cases et
    | keys h0 r0 => cases et
    | kod h0 => cases et
  refine PE.imp (pe_callB hcall hg hm (by decide +kernel) (pa_cons he (pa_cons hC pa_nil hs2) (by rw [hs, hs2])) (by decide) (by decide) (by rw [hs, hs2]) (by rw [hs2]; rfl)) fun σ H Q ⟨F, ρ, δ, S, rel, env, post⟩ => ?_
  refine (step (R1 := RD (tb X A)) rel env post).mono fun y H1 ⟨F1, ρ1, S1, d1, x1, rel1, env1, q1, p1⟩ => ?_
  split at p1
  · rename_i b hb
    exact ⟨y, F1, ρ1, S1, d1, b, rfl, rel1, q1, hb, p1 F1 ρ1 H1 _ (Ext.refl _ _) rel1 (.bl b)⟩
  · exact p1.elim
/-- err.f of a held exception of an own class with such a field -/
def mXf (f : Str) (a : ME) : ME := fun δ S => (a δ S).bind fun d S1 => match d with
  | .exc c fs => if c = "Clash" then match fs.lookup f with
      | some v => .ok v S1
      | none => .bad
    else .bad
  | _ => .bad
theorem se_xf {f : Str} {e : Expr} {me : ME} {pos : Pos} (T : XfC X.K (A.a "Clash")) (hno : PySem.W.findIn X.K (.ref (A.a "Clash")) f = some none) (he : SE X A W e me) (hb : attributeBase e f X.env (eval e X.env) = eval e X.env := by rfl) : SE X A W (.Attribute e f pos) (mXf f me) := by
  refine ⟨fun pins s σ H Q I ⟨F, ρ, δ, S, rel, env, post⟩ => ?_⟩
  refine attr_of hb (thn (he.run pins s σ H _ I (step (R1 := RD (tb X A)) rel env post)) fun u s1 ⟨x, H1, I1, rx, F1, ρ1, S1, d1, x1, rel1, env1, q1, p1⟩ => ?_)
  split at p1
  · rename_i c fs
    split at p1
    · rename_i hcc
      subst hcc
      split at p1
      · rename_i v hv
        cases q1 with
        | exc h0 => cases hv
        | @excd _ a dd _ fv h0 h3 r0 =>
          obtain ⟨w, hw, rw_⟩ := r0.some_of hv
          obtain rfl : u = Value.ref a := rx
          have e0 := rel1.sub.ex h0 ExH.nd
          have e3 := rel1.sub.ex h3 (fun _ z => by cases z)
          obtain ⟨⟨oe, vs, e1, ⟨z1, z2⟩, ed⟩, _, _⟩ := (show ObjOk X.prog X.w H1 s1.heap a (.ext fun h => ∃ (oe : Obj) (vs : Array Value), h.get? a = some oe ∧ Zc (.ref (A.a "Clash")) (some dd) oe ∧ oe.data = .fields vs) from I1.hok a _ e0)
          obtain ⟨mA, hns, hr⟩ := (show ObjOk X.prog X.w H1 s1.heap dd (.xd fv) from I1.hok dd _ e3)
          obtain ⟨od, ho, hl⟩ := lookIn_ns hns
          obtain ⟨u', hu, ru⟩ := RelO.some_of (v := w) (o := mA f) (by rw [← hw]; exact hr f)
          have J : PySem.W.InstAt s1.heap a oe (A.a "Clash") (some od) := ⟨e1, z1, by unfold PySem.W.notCls; rw [ed] <;> rfl, by rw [z2]; exact ho⟩
          exact HandSPX.exc_get I1.kIn J T.ga T.gg T.exC (PySem.W.findObj_own T.hdC hno rfl (by rw [hl, hu])) (handed_of ru) ⟨w, H1, I1.tok _, ru, p1 F1 ρ1 H1 w (Ext.refl _ _) rel1 rw_⟩
      · exact p1.elim
    · exact p1.elim
  · exact p1.elim
end
section
variable {δ : Dn} {S : Store}
theorem ap_tryH (ok : Str → Option Bool) (i j : Nat) (b : MS) : mTryH ok i j b δ S = match b δ S with
  | .exn c fs δ1 S1 => match ok c with
    | some true => .nx ((δ1.set j (some (.exc c fs))).set i none) S1
    | some false => .exn c fs δ1 S1
    | none => .bad
  | o => o := (rfl)
@[simp] theorem ap_isi (t : String ⊕ Str → Option Bool) (a : ME) : mIsi t a δ S = (a δ S).bind fun d S1 => match (tyD S1 d).bind t with
  | some b => .ok (.bl b) S1
  | none => .bad := (rfl)
@[simp] theorem ap_xf (f : Str) (a : ME) : mXf f a δ S = (a δ S).bind fun d S1 => match d with
  | .exc c fs => if c = "Clash" then match fs.lookup f with
      | some v => .ok v S1
      | none => .bad
    else .bad
  | _ => .bad := (rfl)
end
end Dee

set_option maxRecDepth 100000
set_option maxHeartbeats 4000000
namespace Dee
open PySem PySem.Spec L2 PyProof.Rows
/-! ### defs whose end lets nothing go -/
def fnR (m : MS) (N n : Nat) : List D → Store → Out D := fun ds S => if ds.length = n then fnOut m N ds S else .bad
def fnF (m : MS) (N n : Nat) : List D → Store → Out D := fun ds S => if ds.length = n then frzOut (fnOut m N ds S) else .bad
theorem fnR_len {m : MS} {N n : Nat} (ds : List D) (S : Store) (h : fnR m N n ds S ≠ .bad) : ds.length = n := by
  unfold fnR at h
  split at h
  · assumption
  · exact absurd rfl h
theorem fnF_len {m : MS} {N n : Nat} (ds : List D) (S : Store) (h : fnF m N n ds S ≠ .bad) : ds.length = n := by
  unfold fnF at h
  split at h
  · assumption
  · exact absurd rfl h
theorem fnOut_eq (m : MS) (N : Nat) (ds : List D) (S : Store) : fnOut m N ds S = soOut (m (dstart N ds) S) := by
  unfold fnOut soOut
  cases m (dstart N ds) S <;> rfl
theorem run_defR {m : MS} {N n : Nat} {ds : List D} {S : Store} (h : ds.length = n) : fnR m N n ds S = soOut (m (dstart N ds) S) := by
  unfold fnR
  rw [if_pos h, fnOut_eq]
theorem run_defF {m : MS} {N n : Nat} {ds : List D} {S : Store} (h : ds.length = n) : fnF m N n ds S = frzOut (soOut (m (dstart N ds) S)) := by
  unfold fnF
  rw [if_pos h, fnOut_eq]
theorem fn_okG {P : Program} {w : World} {K : PySem.W.Frag} {mg : Str → Option Value} {base : Heap} {x qual : Str} {st : Stmt} {f : Addr} {fd : FuncData} {N ps : List Str} {k : Nat} {a : Str → Addr} {m : MS} {nN n : Nat} {g : List D → Store → Out D}
    (hl : ∀ ds S, g ds S ≠ .bad → ds.length = n) (tr : ∀ (T : Tab) (W : WX) (σ : L2.St) (F : Hp) (ρ : List Addr) (S : Store) (H : Hp) (Q : V → Hp → Prop) (ds : List D), Rel T F ρ S H → ds.length = n → Post (RD T) T W σ F ρ Q (g ds S) → Post (RD T) T W σ F ρ Q (fnOut m nN ds S))
    (hN : N.length = nN) (hP : ps.length = n) (Fu : Fun K x qual st f fd) (Sc : FnScope N ps (defScope st))
    (body : ∀ (cdv : Value) (A' : Around) (outer : List Env) (s : Shared) (H : Hp) (E : XK) (Pv : Hp), Room k (A'.deeper (PyProof.Rows.envOfC qual (defScope st) s.heap.objs.size f cdv)) →
      SSs (cxOf (L2.CX P w) P w K mg base N qual (defScope st) f cdv A' outer s H E) ⟨a, Pv⟩ (fun cls d _ H => E cls d H) (defBody st) m) :
    FnOk P w K mg base (L2.CX P w) (k + 1) f fd ps (spD ⟨K, w, a⟩ n g) := by
  subst hN hP
  refine Fu.okX Sc (fun vs H Q E ⟨Pv, F, ρ, Sx, ds, rel, rs, hlen, _⟩ => by rw [← rs.len]; exact hlen) fun cdv A' outer s H vs Q E hr ⟨Pv, F, ρ, Sx, ds, rel, rs, hlen, post⟩ => ?_
  refine ⟨_, PSs.ex fun Pv => body cdv A' outer s H E Pv hr, Pv, F, ρ, dstart N.length ds, Sx, rel, env_start N rs, ?_⟩
  have p2 := tr _ _ _ _ _ _ _ _ _ rel hlen post
  unfold fnOut at p2
  revert p2
  cases m (dstart N.length ds) Sx with
  | nx δ S' => exact fun p F' ρ' σ' H' x' r' e' => p F' ρ' H' .non x' r' .non
  | rt d S' => exact fun p F' ρ' H' v x' r' e' => p F' ρ' H' v x' r' e'
  | exn c fs δ S' => exact fun p F' ρ' σ' H' cl dd x' r' e' q' => p F' ρ' H' cl dd x' r' q'
  | bk δ S' => exact fun p => p.elim
  | ct δ S' => exact fun p => p.elim
  | bad => exact fun p => p.elim
section
variable {P : Program} {w : World} {K : PySem.W.Frag} {mg : Str → Option Value} {base : Heap} {x qual : Str} {st : Stmt} {f : Addr} {fd : FuncData} {N ps : List Str} {k : Nat} {a : Str → Addr} {m : MS} {nN n : Nat} {g : List D → Store → Out D}
theorem fn_okR (hg : g = fnR m nN n) (hN : N.length = nN) (hP : ps.length = n) (Fu : Fun K x qual st f fd) (Sc : FnScope N ps (defScope st))
    (body : ∀ (cdv : Value) (A' : Around) (outer : List Env) (s : Shared) (H : Hp) (E : XK) (Pv : Hp), Room k (A'.deeper (PyProof.Rows.envOfC qual (defScope st) s.heap.objs.size f cdv)) →
      SSs (cxOf (L2.CX P w) P w K mg base N qual (defScope st) f cdv A' outer s H E) ⟨a, Pv⟩ (fun cls d _ H => E cls d H) (defBody st) m) :
    FnOk P w K mg base (L2.CX P w) (k + 1) f fd ps (spD ⟨K, w, a⟩ n g) := by
  subst hg
  exact fn_okG fnR_len (fun T W σ F ρ S H Q ds rel hl post => by unfold fnR at post; rw [if_pos hl] at post; exact post) hN hP Fu Sc body
theorem fn_okF (hg : g = fnF m nN n) (hN : N.length = nN) (hP : ps.length = n) (Fu : Fun K x qual st f fd) (Sc : FnScope N ps (defScope st))
    (body : ∀ (cdv : Value) (A' : Around) (outer : List Env) (s : Shared) (H : Hp) (E : XK) (Pv : Hp), Room k (A'.deeper (PyProof.Rows.envOfC qual (defScope st) s.heap.objs.size f cdv)) →
      SSs (cxOf (L2.CX P w) P w K mg base N qual (defScope st) f cdv A' outer s H E) ⟨a, Pv⟩ (fun cls d _ H => E cls d H) (defBody st) m) :
    FnOk P w K mg base (L2.CX P w) (k + 1) f fd ps (spD ⟨K, w, a⟩ n g) := by
  subst hg
  exact fn_okG fnF_len (fun T W σ F ρ S H Q ds rel hl post => by unfold fnF at post; rw [if_pos hl] at post; exact post_frz post) hN hP Fu Sc body
end
/-! ### d.keys(), walked: the dict is locked from then on -/
def tLk (td : TE) : TE := fun σ H Q => td σ H fun x H1 => ∃ d, x = .ref d ∧ ((∃ kvs, H1 d = some (.dK kvs) ∧ ∀ o, Q x (upd H1 d (.frz o (.dK kvs)))) ∨ Q x H1)
theorem PE.lockAfter {X : Cx} {e : Expr} {td : TE} (h : PE X e td) : PE X e (tLk td) := by
  refine ⟨fun pins s σ H Q I q => thn (h.run pins s σ H _ I q) fun u s1 ⟨x, H1, I1, rx, d, ex, q⟩ => ?_⟩
  rcases q with ⟨kvs, hd, q⟩ | q
  · obtain ⟨od, I2⟩ := I1.lock hd True.intro
    exact ⟨x, _, I2, rx, q od⟩
  · exact ⟨x, H1, I1, rx, q⟩
def iKeysD (me : ME) : MI := fun δ S => (me δ S).bind fun d S1 => match d with
  | .dct kvs => .ok (.at_ (.keys (.dct kvs))) S1
  | _ => .bad
/-- the dict of a datum is locked -/
theorem Rel.lockD {T : Tab} {F H : Hp} {ρ : List Addr} {S : Store} {p : Addr} {kv : List (Key × V)} {o : Obj} (rel : Rel T F ρ S H) (hF : F p = some (.dK kv)) (H' : Hp) (hH : ∀ b, b ≠ p → H' b = H b) (hp : H' p = some (.frz o (.dK kv))) :
    Rel T (upd F p (.frz o (.dK kv))) ρ S H' ∧ Ext F ρ (upd F p (.frz o (.dK kv))) ρ := by
  have le : Le F (upd F p (.frz o (.dK kv))) := fun b u e => by
    by_cases hb : b = p
    · subst hb; rw [hF] at e; cases e; exact .inr ⟨o, kv, rfl, upd_same⟩
    · exact .inl (by rw [upd_ne hb]; exact e)
  have x : Ext F ρ (upd F p (.frz o (.dK kv))) ρ := ⟨le, List.prefix_refl ρ⟩
  refine ⟨⟨fun b u e => ?_, rel.len, fun n c q e1 e2 => ?_, rel.dis, fun q u e => ?_⟩, x⟩
  · by_cases hb : b = p
    · subst hb; rw [upd_same] at e; cases e; exact .inl hp
    · rw [upd_ne hb] at e; rw [hH b hb]; exact rel.sub b u e
  · by_cases hd : c = Cell.dead
    · subst hd; trivial
    · have k := rel.cell n c q e1 e2
      obtain ⟨u, h1, h2, _⟩ := k.there hd
      have hq : q ≠ p := fun z => by rw [z, hF] at h2; cases h2
      exact k.mono x (fun _ z => by rw [upd_ne hq]; exact z) fun u z => by rw [hH q hq]; exact z
  · obtain ⟨h1, h2, h3⟩ := rel.prv q u e
    have hq : q ≠ p := fun z => by rw [z, hF] at h2; cases h2
    exact ⟨by rw [hH q hq]; exact h1, by rw [upd_ne hq]; exact h2, h3⟩
section
variable {X : Cx} {A : AP} {W : WX}
theorem si_keys {tg e : Expr} {me : ME} {apos cpos : Pos} (h : SE X A W e me) (hbase : attributeBase e "keys" X.env (eval e X.env) = eval e X.env := by rfl) (hline : (apos.endLine == cpos.line) = true := by rfl) : SI X A W tg (.Call (.Attribute e "keys" apos) [] [] cpos) (iKeysD me) :=
  PI.imp (pi_keysM (PE.lockAfter h) hbase hline) fun σ H R ⟨F, ρ, δ, S, rel, env, post⟩ => by
  refine (step (R1 := RD (tb X A)) rel env post).mono fun x H1 ⟨F1, ρ1, S1, d1, x1, rel1, env1, q1, p1⟩ => ?_
  split at p1
  · rename_i kvs
    cases q1 with
    | @dct p kv _ h0 rk =>
      refine ⟨p, rfl, ?_⟩
      rcases h0 with h0 | ⟨o, h0⟩
      · rcases rel1.sub p _ h0 with h1 | ⟨o, kv', e, h1⟩
        · refine .inl ⟨kv, h1, fun o => ⟨p, o, kv, rfl, upd_same, ?_⟩⟩
          obtain ⟨rel2, x2⟩ := rel1.lockD h0 (upd H1 p (.frz o (.dK kv))) (fun b hb => upd_ne hb) upd_same
          exact p1 _ _ _ _ x2 rel2 ⟨p, o, kvs, kv, rfl, rfl, upd_same, rk.mono x2⟩
        · cases e
          refine .inr ⟨p, o, kv, rfl, h1, ?_⟩
          obtain ⟨rel2, x2⟩ := rel1.lockD h0 H1 (fun b hb => rfl) h1
          exact p1 _ _ _ _ x2 rel2 ⟨p, o, kvs, kv, rfl, rfl, upd_same, rk.mono x2⟩
      · exact .inr ⟨p, o, kv, rfl, rel1.sub.ex h0 (fun _ z => by cases z), p1 _ _ _ _ (Ext.refl _ _) rel1 ⟨p, o, kvs, kv, rfl, rfl, h0, rk⟩⟩
  · exact p1.elim
/-! ### count, index, str -/
def flDs : List D → Option (List V)
  | [] => some []
  | d :: r => match flD d, flDs r with
    | some v, some vs => some (v :: vs)
    | _, _ => none
theorem flDs_rep {T : Tab0} {F : Hp} {ρ : List Addr} : ∀ {ds : List D} {vs xs : List V}, Reps T F ρ ds vs → flDs ds = some xs → vs = xs ∧ xs.all flatV = true
  | _, _, xs, .nil, h => by cases h; exact ⟨rfl, rfl⟩
  | _, _, xs, .cons r t, h => by
    unfold flDs at h
    split at h
    · rename_i v vs h1 h2
      cases h
      obtain ⟨e1, f1⟩ := flD_rep r h1
      obtain ⟨e2, f2⟩ := flDs_rep t h2
      subst e1 e2
      exact ⟨rfl, by rw [List.all_cons, f1, f2]; rfl⟩
    · cases h
def countD : PM := fun d xs S => match xs with
  | [x] => match (asL S d).bind flDs, flD x with
    | some vs, some y => some (.int (vs.countP (fun z => eqV z y) : Nat), S)
    | _, _ => none
  | _ => none
def indexD : PM := fun d xs S => match xs with
  | [x] => match (asL S d).bind flDs, flD x with
    | some vs, some y => (vs.findIdx? (fun z => eqV z y)).map fun j => (.int (j : Nat), S)
    | _, _ => none
  | _ => none
theorem countP_vals {y : V} : ∀ {vs : List V} {us : List Value}, Vals vs us → vs.all flatV = true → us.countP (eqU y) = vs.countP (fun z => eqV z y)
  | _, _, .nil, _ => rfl
  | _, _, .cons r t, f => by
    rw [List.all_cons, Bool.and_eq_true] at f
    rw [List.countP_cons, List.countP_cons, countP_vals t f.2, eqU_of r f.1]
theorem md_count (hu : X.A.units + 64 < cLine) : MthD X A "list.count" countD := by
  intro pins s σ H x xs v us Q I rx rxs h
  obtain ⟨F, ρ, S, d, ds, rel, r1, rs, post⟩ := h
  unfold countD at post
  split at post
  · rename_i y
    obtain ⟨z, rfl, rz⟩ := reps1 rs
    split at post
    · rename_i vs y' hc hy
      obtain ⟨es, he, hf⟩ := Option.bind_eq_some_iff.mp hc
      obtain ⟨p, ws, rfl, hs, rw1⟩ := rel.asL r1 he
      obtain ⟨e1, f1⟩ := flDs_rep rw1 hf
      obtain ⟨e2, f2⟩ := flD_rep rz hy
      subst e1 e2
      cases rx
      obtain ⟨u, rfl, ru⟩ := vals1 rxs
      obtain ⟨its, rv, ⟨⟨cls, dd, data, sl⟩, n, ho, hc', hdn, hd⟩, hlen⟩ := I.list hs
      simp only at hc' hd
      subst hc' hd
      refine call_meets PySem.F.slot_list_count ⟨_, ho, rfl⟩ PySem.F.entry_list_count (PySem.F.args_list_count_2 _ _) (SeqAt.list_countAt p its.toArray n dd sl u (eqU _)) ⟨ho, fun u' hu' => mem_eqAt ru f2 rv f1 u' (by simpa using hu'), ?_⟩
      refine ⟨.int (ws.countP (fun w => eqV w z) : Nat), H, I.tok _, ⟨s.toks, ?_⟩, post.now rel (.int _)⟩
      rw [show its.toArray.toList = its from rfl, countP_vals rv f1]
    · exact post.elim
  · exact post.elim
theorem md_index (hu : X.A.units + 64 < cLine) : MthD X A "list.index" indexD := by
  intro pins s σ H x xs v us Q I rx rxs h
  obtain ⟨F, ρ, S, d, ds, rel, r1, rs, post⟩ := h
  unfold indexD at post
  split at post
  · rename_i y
    obtain ⟨z, rfl, rz⟩ := reps1 rs
    split at post
    · rename_i vs y' hc hy
      obtain ⟨es, he, hf⟩ := Option.bind_eq_some_iff.mp hc
      obtain ⟨p, ws, rfl, hs, rw1⟩ := rel.asL r1 he
      obtain ⟨e1, f1⟩ := flDs_rep rw1 hf
      obtain ⟨e2, f2⟩ := flD_rep rz hy
      subst e1 e2
      cases hj : ws.findIdx? (fun w => eqV w z) with
      | none => rw [hj] at post; exact post.elim
      | some j =>
        rw [hj] at post
        obtain ⟨hlt, h1, h2⟩ := List.findIdx?_eq_some_iff_getElem.mp hj
        exact mt_index pins s σ H _ _ v us Q I rx rxs ⟨p, ws, z, j, ws[j], rfl, rfl, hs, f2, f1, List.getElem?_eq_getElem hlt, h1, fun m z' hm hz' => by
          obtain ⟨hl, e⟩ := List.getElem?_eq_some_iff.mp hz'
          have := h2 m hm
          rw [e] at this
          simpa using this, post.now rel (.int _)⟩
    · exact post.elim
  · exact post.elim
def strTD : PL
  | [.str s], S => some (.str s, S)
  | ds, S => strD ds S
theorem cd_strT : CallD X A (.type "str") strTD := by
  intro pins s σ H xs us Q I r h
  obtain ⟨F, ρ, S, ds, rel, rs, post⟩ := h
  unfold strTD at post
  split at post
  · obtain ⟨x, rfl, r1⟩ := reps1 rs
    cases r1
    exact SkE.call_str_str pins s σ H _ us Q I r ⟨_, rfl, post.now rel (.str _)⟩
  · exact cd_str pins s σ H xs us Q I r ⟨F, ρ, S, ds, rel, rs, post⟩
end
/-! ### running -/
section
variable {δ : Dn} {S : Store}
@[simp] theorem ap_iKeys (a : ME) : iKeysD a δ S = (a δ S).bind fun d S1 => match d with
  | .dct kvs => .ok (.at_ (.keys (.dct kvs))) S1
  | _ => .bad := (rfl)
@[simp] theorem strT_s (s : Str) : strTD [.str s] S = some (.str s, S) := (rfl)
@[simp] theorem strT_i (i : Int) : strTD [.int i] S = strD [.int i] S := (rfl)
theorem cnt_keys (kvs : List (Key × D)) : cntD S (.at_ (.keys (.dct kvs))) = kvs.length + 1 := by
  show (match itemsD S (.keys (.dct kvs)) with
    | some ds => ds.length + 1
    | none => 0) = _
  show (kvs.map fun kv => kD kv.1).length + 1 = _
  rw [List.length_map]
theorem nxt_keys (kvs : List (Key × D)) (j : Nat) : nxtD S j (.at_ (.keys (.dct kvs))) = some ((kvs.map fun kv => kD kv.1)[j]?) := (rfl)
end
end Dee

set_option maxRecDepth 100000
set_option maxHeartbeats 4000000
namespace Dee
open PySem PySem.Spec L2 PyProof.Rows
/-! ### taking one out of a list of numbers -/
def removeD : PM := fun d xs S => match cellL S d, xs with
  | some (n, ds), [.int k] => match asIs ds with
    | some ns => match ns.findIdx? (fun z => decide (z = k)) with
      | some j => some (.non, S.set n (.lst (ds.eraseIdx j)))
      | none => none
    | none => none
  | _, _ => none
section
variable {X : Cx} {A : AP}
theorem asIs_map : ∀ {ds : List D} {ns : List Int}, asIs ds = some ns → ds = ns.map D.int
  | [], _, h => by cases h; rfl
  | .int b :: r, ns, h => by
    obtain ⟨ms, h1, rfl⟩ := Option.map_eq_some_iff.mp (show (asIs r).map (b :: ·) = some ns from h)
    rw [asIs_map h1]; rfl
  | .non :: _, _, h => by cases h
  | .bl _ :: _, _, h => by cases h
  | .str _ :: _, _, h => by cases h
  | .tup _ :: _, _, h => by cases h
  | .lst _ :: _, _, h => by cases h
  | .rol _ :: _, _, h => by cases h
  | .dct _ :: _, _, h => by cases h
  | .loc _ :: _, _, h => by cases h
  | .exc _ _ :: _, _, h => by cases h
  | .kod _ :: _, _, h => by cases h
  | .keys _ :: _, _, h => by cases h
theorem reps_ints {T : Tab0} {F : Hp} {ρ : List Addr} : ∀ {ns : List Int} {vs : List V}, Reps T F ρ (ns.map D.int) vs → vs = ns.map V.int
  | [], _, .nil => rfl
  | n :: ns, _, .cons r t => by cases r; rw [reps_ints t]; rfl
theorem erase_ints : ∀ (ns : List Int) (j : Nat), (ns.map D.int).eraseIdx j = (ns.eraseIdx j).map D.int
  | [], _ => rfl
  | _ :: _, 0 => rfl
  | a :: r, j + 1 => by rw [List.map_cons, List.eraseIdx_cons_succ, erase_ints r j]; rfl
theorem md_remove (hu : X.A.units + 64 < cLine) : MthD X A "list.remove" removeD := by
  intro pins s σ H x xs v us Q I rx rxs h
  obtain ⟨F, ρ, S, d, ds, rel, r1, rs, post⟩ := h
  unfold removeD at post
  split at post
  · rename_i n ls k hc
    obtain ⟨p, vs, rfl, h1, h2, h3, h4, h5⟩ := rel.cellL r1 hc
    obtain ⟨z, rfl, rz⟩ := reps1 rs
    cases rz
    split at post
    · rename_i ns hns
      have e1 := asIs_map hns
      subst e1
      have e2 := reps_ints h4
      subst e2
      split at post
      · rename_i j hj
        obtain ⟨hlt, g1, g2⟩ := List.findIdx?_eq_some_iff_getElem.mp hj
        refine mt_remove pins s σ H _ _ v us Q I rx rxs ⟨p, ns, k, j, rfl, rfl, h3, ?_, fun m hm e => ?_, ?_⟩
        · rw [List.getElem?_eq_getElem hlt]
          simpa using g1
        · obtain ⟨hl, e⟩ := List.getElem?_eq_some_iff.mp e
          have := g2 m hm
          simp [e] at this
        · rw [erase_ints] at post
          exact post F ρ _ _ (Ext.refl _ _) (h5 _ _ (rep_ints _)) .non
      · exact post.elim
    · exact post.elim
  · exact post.elim
end
end Dee

set_option maxRecDepth 100000
set_option maxHeartbeats 4000000
namespace Dee
open PySem PySem.Spec L2
def k_KINDS : D := .kod [("write", .str "text"), ("cut", .str "text"), ("put", .str "row"), ("take", .str "row"), ("move", .str "row"), ("set", .str "number"), ("add", .str "number")]
def k_SIZES : D := .kod [("whole", .int 3), ("drop", .int 2), ("rename", .int 3), ("write", .int 4), ("cut", .int 4), ("put", .int 4), ("take", .int 3), ("move", .int 4), ("set", .int 3), ("add", .int 3)]
def is_BadBoard : String ⊕ Str → Option Bool := isTab [("NoneType", false), ("bool", false), ("int", false), ("str", false), ("tuple", false), ("list", false)] [("BadDeed", false), ("BadBoard", true), ("BadNumber", false), ("Stuck", false), ("Open", false), ("Clash", false)]
def is_BadDeed : String ⊕ Str → Option Bool := isTab [("NoneType", false), ("bool", false), ("int", false), ("str", false), ("tuple", false), ("list", false)] [("BadDeed", true), ("BadBoard", false), ("BadNumber", false), ("Stuck", false), ("Open", false), ("Clash", false)]
def is_BadNumber : String ⊕ Str → Option Bool := isTab [("NoneType", false), ("bool", false), ("int", false), ("str", false), ("tuple", false), ("list", false)] [("BadDeed", false), ("BadBoard", false), ("BadNumber", true), ("Stuck", false), ("Open", false), ("Clash", false)]
def is_Clash : String ⊕ Str → Option Bool := isTab [("NoneType", false), ("bool", false), ("int", false), ("str", false), ("tuple", false), ("list", false)] [("BadDeed", false), ("BadBoard", false), ("BadNumber", false), ("Stuck", false), ("Open", false), ("Clash", true)]
def is_Open : String ⊕ Str → Option Bool := isTab [("NoneType", false), ("bool", false), ("int", false), ("str", false), ("tuple", false), ("list", false)] [("BadDeed", false), ("BadBoard", false), ("BadNumber", false), ("Stuck", false), ("Open", true), ("Clash", false)]
def is_Stuck : String ⊕ Str → Option Bool := isTab [("NoneType", false), ("bool", false), ("int", false), ("str", false), ("tuple", false), ("list", false)] [("BadDeed", false), ("BadBoard", false), ("BadNumber", false), ("Stuck", true), ("Open", false), ("Clash", false)]
def is_ValueError : String ⊕ Str → Option Bool := isTab [("NoneType", false), ("bool", false), ("int", false), ("str", false), ("tuple", false), ("list", false)] [("BadDeed", true), ("BadBoard", true), ("BadNumber", true), ("Stuck", true), ("Open", true), ("Clash", true)]
def is_bool : String ⊕ Str → Option Bool := isTab [("NoneType", false), ("bool", true), ("int", false), ("str", false), ("tuple", false), ("list", false)] []
def is_int : String ⊕ Str → Option Bool := isTab [("NoneType", false), ("bool", true), ("int", true), ("str", false), ("tuple", false), ("list", false)] []
def is_str : String ⊕ Str → Option Bool := isTab [("NoneType", false), ("bool", false), ("int", false), ("str", true), ("tuple", false), ("list", false)] []
def ex_Clash (c : Str) : Option Bool := ([("BadDeed", false), ("BadBoard", false), ("BadNumber", false), ("Stuck", false), ("Open", false), ("Clash", true)] : List (Str × Bool)).lookup c
def ex_UndoError (c : Str) : Option Bool := ([("BadDeed", true), ("BadBoard", true), ("BadNumber", true), ("Stuck", true), ("Open", true), ("Clash", true)] : List (Str × Bool)).lookup c
noncomputable def m_is_word : MS := mRt (mAnd (mChain leD leD (mC (.int 1)) (mApp lenD (aCons (mVar 0) (aNil))) (mC (.int 8))) (mApp allD (aCons (mLc false (iAt (mVar 0)) [1] (TgS.g (.one 1)) (tYesD) (mBin (inD false) (mVar 1) (mC (.str "abcdefghijklmnopqrstuvwxyz")))) (aNil))))
noncomputable def g_is_word : List D → Store → Out D := fnP m_is_word 2 1
theorem call_is_word (d0 : D) (S : Store) : g_is_word [d0] S = gcOut S (frzOut (soOut (m_is_word [some d0, none] S))) := run_def rfl
theorem fn_len_is_word : ∀ (ds : List D) (S : Store), g_is_word ds S ≠ .bad → ds.length = 1 := fnP_len
noncomputable def m_is_text : MS := mRt (mAnd (mBin leD (mApp lenD (aCons (mVar 0) (aNil))) (mC (.int 200))) (mApp allD (aCons (mLc false (iAt (mVar 0)) [1] (TgS.g (.one 1)) (tYesD) (mAnd (mChain leD ltD (mC (.int 32)) (mApp ordD (aCons (mVar 1) (aNil))) (mC (.int 127))) (mBin neO (mApp ordD (aCons (mVar 1) (aNil))) (mC (.int 37))))) (aNil))))
noncomputable def g_is_text : List D → Store → Out D := fnP m_is_text 2 1
theorem call_is_text (d0 : D) (S : Store) : g_is_text [d0] S = gcOut S (frzOut (soOut (m_is_text [some d0, none] S))) := run_def rfl
theorem fn_len_is_text : ∀ (ds : List D) (S : Store), g_is_text ds S ≠ .bad → ds.length = 1 := fnP_len
noncomputable def m_is_value : MS := mSeq (mIfS (tVal (mBin neO (mApp lenD (aCons (mVar 0) (aNil))) (mC (.int 2)))) (mRt (mC (.bl false))) (mNil)) (mSeq (mIfS (tVal (mBin eqO (mBin ixD (mVar 0) (mC (.int 0))) (mC (.str "text")))) (mRt (mCall g_is_text (aCons (mBin ixD (mVar 0) (mC (.int 1))) (aNil)))) (mNil)) (mSeq (mIfS (tVal (mBin eqO (mBin ixD (mVar 0) (mC (.int 0))) (mC (.str "row")))) (mRt (mAnd (mBin leD (mApp lenD (aCons (mBin ixD (mVar 0) (mC (.int 1))) (aNil))) (mC (.int 40))) (mApp allD (aCons (mLc false (iAt (mBin ixD (mVar 0) (mC (.int 1)))) [1] (TgS.g (.one 1)) (tYesD) (mCall g_is_word (aCons (mVar 1) (aNil)))) (aNil))))) (mNil)) (mRt (mAnd (mBin eqO (mBin ixD (mVar 0) (mC (.int 0))) (mC (.str "number"))) (mBin leD (mApp absD (aCons (mBin ixD (mVar 0) (mC (.int 1))) (aNil))) (mC (.int 1000000000)))))))
noncomputable def g_is_value : List D → Store → Out D := fnP m_is_value 2 1
theorem call_is_value (d0 : D) (S : Store) : g_is_value [d0] S = gcOut S (frzOut (soOut (m_is_value [some d0, none] S))) := run_def rfl
theorem fn_len_is_value : ∀ (ds : List D) (S : Store), g_is_value ds S ≠ .bad → ds.length = 1 := fnP_len
noncomputable def m_look_board : MS := mSeq (mIfS (tVal (mBin gtD (mApp lenD (aCons (mVar 0) (aNil))) (mC (.int 20)))) (mRaise "BadBoard") (mNil)) (mFor (iKeysD (mVar 0)) (gVar 1) (mIfS (tOrD (tNotD (tTru (mCall g_is_word (aCons (mVar 1) (aNil))))) (tNotD (tTru (mCall g_is_value (aCons (mBin ixD (mVar 0) (mVar 1)) (aNil)))))) (mRaise "BadBoard") (mNil)))
noncomputable def g_look_board : List D → Store → Out D := fnP m_look_board 2 1
theorem call_look_board (d0 : D) (S : Store) : g_look_board [d0] S = gcOut S (frzOut (soOut (m_look_board [some d0, none] S))) := run_def rfl
theorem fn_len_look_board : ∀ (ds : List D) (S : Store), g_look_board ds S ≠ .bad → ds.length = 1 := fnP_len
noncomputable def m_must : MS := mIfS (tNotD (tTru (mVar 0))) (mRaise "BadDeed") (mNil)
noncomputable def g_must : List D → Store → Out D := fnP m_must 1 1
theorem call_must (d0 : D) (S : Store) : g_must [d0] S = gcOut S (frzOut (soOut (m_must [some d0] S))) := run_def rfl
theorem fn_len_must : ∀ (ds : List D) (S : Store), g_must ds S ≠ .bad → ds.length = 1 := fnP_len
noncomputable def m_look_deed : MS := mSeq (mEx (mCall g_must (aCons (mAnd (mBin gtD (mApp lenD (aCons (mVar 0) (aNil))) (mC (.int 0))) (mOr (mAnd (mBin eqO (mBin ixD (mVar 0) (mC (.int 0))) (mC (.str "say"))) (mBin eqO (mApp lenD (aCons (mVar 0) (aNil))) (mC (.int 2)))) (mBin eqO (mApp lenD (aCons (mVar 0) (aNil))) (mMeth .kod getD2 (mC k_SIZES) (aCons (mBin ixD (mVar 0) (mC (.int 0))) (aCons (mC (.int 0)) (aNil))))))) (aNil)))) (mSeq (mAsg (mBin ixD (mVar 0) (mC (.int 0))) (gVar 1)) (mSeq (mEx (mCall g_must (aCons (mCall g_is_word (aCons (mBin ixD (mVar 0) (mC (.int 1))) (aNil))) (aNil)))) (mIfS (tVal (mBin eqO (mVar 1) (mC (.str "whole")))) (mEx (mCall g_must (aCons (mCall g_is_value (aCons (mBin ixD (mVar 0) (mC (.int 2))) (aNil))) (aNil)))) (mIfS (tVal (mBin eqO (mVar 1) (mC (.str "rename")))) (mEx (mCall g_must (aCons (mCall g_is_word (aCons (mBin ixD (mVar 0) (mC (.int 2))) (aNil))) (aNil)))) (mIfS (tVal (mBin eqO (mVar 1) (mC (.str "write")))) (mEx (mCall g_must (aCons (mAnd (mBin geD (mBin ixD (mVar 0) (mC (.int 2))) (mC (.int 0))) (mAnd (mBin neO (mBin ixD (mVar 0) (mC (.int 3))) (mC (.str ""))) (mCall g_is_text (aCons (mBin ixD (mVar 0) (mC (.int 3))) (aNil))))) (aNil)))) (mIfS (tVal (mBin eqO (mVar 1) (mC (.str "put")))) (mEx (mCall g_must (aCons (mAnd (mBin geD (mBin ixD (mVar 0) (mC (.int 2))) (mC (.int 0))) (mCall g_is_word (aCons (mBin ixD (mVar 0) (mC (.int 3))) (aNil)))) (aNil)))) (mIfS (tVal (mBin eqO (mVar 1) (mC (.str "cut")))) (mEx (mCall g_must (aCons (mAnd (mBin geD (mBin ixD (mVar 0) (mC (.int 2))) (mC (.int 0))) (mBin gtD (mBin ixD (mVar 0) (mC (.int 3))) (mC (.int 0)))) (aNil)))) (mIfS (tVal (mBin (inD false) (mVar 1) (mTup (aCons (mC (.str "set")) (aCons (mC (.str "add")) (aNil)))))) (mEx (mCall g_must (aCons (mBin leD (mApp absD (aCons (mBin ixD (mVar 0) (mC (.int 2))) (aNil))) (mC (.int 1000000000))) (aNil)))) (mEx (mCall g_must (aCons (mApp allD (aCons (mLc false (iAt (mSl false (mVar 0) (oSome (mC (.int 2))) oNone)) [2] (TgS.g (.one 2)) (tYesD) (mBin geD (mVar 2) (mC (.int 0)))) (aNil))) (aNil))))))))))))
noncomputable def g_look_deed : List D → Store → Out D := fnP m_look_deed 3 1
theorem call_look_deed (d0 : D) (S : Store) : g_look_deed [d0] S = gcOut S (frzOut (soOut (m_look_deed [some d0, none, none] S))) := run_def rfl
theorem fn_len_look_deed : ∀ (ds : List D) (S : Store), g_look_deed ds S ≠ .bad → ds.length = 1 := fnP_len
noncomputable def m_with_value : MS := mSeq (mAsg (mMeth .dct (copyD true) (mVar 0) aNil) (gVar 3)) (mSeq (mPut (mVar 2) (mVar 3) (mVar 1)) (mRt (mVar 3)))
noncomputable def g_with_value : List D → Store → Out D := fnP m_with_value 4 3
theorem call_with_value (d0 d1 d2 : D) (S : Store) : g_with_value [d0, d1, d2] S = gcOut S (frzOut (soOut (m_with_value [some d0, some d1, some d2, none] S))) := run_def rfl
theorem fn_len_with_value : ∀ (ds : List D) (S : Store), g_with_value ds S ≠ .bad → ds.length = 3 := fnP_len
noncomputable def m_without : MS := mSeq (mAsg (mMeth .dct (copyD true) (mVar 0) aNil) (gVar 2)) (mSeq (mEx (mMeth .dct dpopD (mVar 2) (aCons (mVar 1) (aNil)))) (mRt (mVar 2)))
noncomputable def g_without : List D → Store → Out D := fnP m_without 3 2
theorem call_without (d0 d1 : D) (S : Store) : g_without [d0, d1] S = gcOut S (frzOut (soOut (m_without [some d0, some d1, none] S))) := run_def rfl
theorem fn_len_without : ∀ (ds : List D) (S : Store), g_without ds S ≠ .bad → ds.length = 2 := fnP_len
noncomputable def m_on_names : MS := mSeq (mAsg (mSl false (mVar 1) oNone (oSome (mC (.int 2)))) (gTupD 2 (gsCons (gVar 2) (gsCons (gVar 3) (gsNil))))) (mSeq (mIfS (tVal (mBin eqO (mVar 2) (mC (.str "whole")))) (mSeq (mEx (mCall g_must (aCons (mAnd (mBin (inD true) (mVar 3) (mVar 0)) (mBin ltD (mApp lenD (aCons (mVar 0) (aNil))) (mC (.int 20)))) (aNil)))) (mRt (mCall g_with_value (aCons (mVar 0) (aCons (mVar 3) (aCons (mTup (aCons (mBin ixD (mBin ixD (mVar 1) (mC (.int 2))) (mC (.int 0))) (aCons (mIf (tVal (mBin eqO (mBin ixD (mBin ixD (mVar 1) (mC (.int 2))) (mC (.int 0))) (mC (.str "row")))) (mApp tupleD (aCons (mBin ixD (mBin ixD (mVar 1) (mC (.int 2))) (mC (.int 1))) (aNil))) (mBin ixD (mBin ixD (mVar 1) (mC (.int 2))) (mC (.int 1)))) (aNil)))) (aNil))))))) (mNil)) (mSeq (mEx (mCall g_must (aCons (mBin (inD false) (mVar 3) (mVar 0)) (aNil)))) (mSeq (mIfS (tVal (mBin eqO (mVar 2) (mC (.str "drop")))) (mRt (mCall g_without (aCons (mVar 0) (aCons (mVar 3) (aNil))))) (mNil)) (mSeq (mEx (mCall g_must (aCons (mBin (inD true) (mBin ixD (mVar 1) (mC (.int 2))) (mVar 0)) (aNil)))) (mRt (mCall g_with_value (aCons (mCall g_without (aCons (mVar 0) (aCons (mVar 3) (aNil)))) (aCons (mBin ixD (mVar 1) (mC (.int 2))) (aCons (mBin ixD (mVar 0) (mVar 3)) (aNil))))))))))
noncomputable def g_on_names : List D → Store → Out D := fnP m_on_names 4 2
theorem call_on_names (d0 d1 : D) (S : Store) : g_on_names [d0, d1] S = gcOut S (frzOut (soOut (m_on_names [some d0, some d1, none, none] S))) := run_def rfl
theorem fn_len_on_names : ∀ (ds : List D) (S : Store), g_on_names ds S ≠ .bad → ds.length = 2 := fnP_len
noncomputable def m_on_text : MS := mSeq (mAsg (mBin ixD (mVar 1) (mC (.int 2))) (gVar 2)) (mSeq (mIfS (tVal (mBin eqO (mBin ixD (mVar 1) (mC (.int 0))) (mC (.str "write")))) (mSeq (mEx (mCall g_must (aCons (mAnd (mBin leD (mVar 2) (mApp lenD (aCons (mVar 0) (aNil)))) (mBin leD (mBin (addD false) (mApp lenD (aCons (mVar 0) (aNil))) (mApp lenD (aCons (mBin ixD (mVar 1) (mC (.int 3))) (aNil)))) (mC (.int 200)))) (aNil)))) (mRt (mBin (addD false) (mBin (addD false) (mSl false (mVar 0) oNone (oSome (mVar 2))) (mBin ixD (mVar 1) (mC (.int 3)))) (mSl false (mVar 0) (oSome (mVar 2)) oNone)))) (mNil)) (mSeq (mEx (mCall g_must (aCons (mBin leD (mBin (addD false) (mVar 2) (mBin ixD (mVar 1) (mC (.int 3)))) (mApp lenD (aCons (mVar 0) (aNil)))) (aNil)))) (mRt (mBin (addD false) (mSl false (mVar 0) oNone (oSome (mVar 2))) (mSl false (mVar 0) (oSome (mBin (addD false) (mVar 2) (mBin ixD (mVar 1) (mC (.int 3))))) oNone)))))
noncomputable def g_on_text : List D → Store → Out D := fnP m_on_text 3 2
theorem call_on_text (d0 d1 : D) (S : Store) : g_on_text [d0, d1] S = gcOut S (frzOut (soOut (m_on_text [some d0, some d1, none] S))) := run_def rfl
theorem fn_len_on_text : ∀ (ds : List D) (S : Store), g_on_text ds S ≠ .bad → ds.length = 2 := fnP_len
noncomputable def m_on_row : MS := mSeq (mAsg (mBin ixD (mVar 1) (mC (.int 2))) (gVar 2)) (mSeq (mIfS (tVal (mBin eqO (mBin ixD (mVar 1) (mC (.int 0))) (mC (.str "put")))) (mSeq (mEx (mCall g_must (aCons (mAnd (mBin leD (mVar 2) (mApp lenD (aCons (mVar 0) (aNil)))) (mBin ltD (mApp lenD (aCons (mVar 0) (aNil))) (mC (.int 40)))) (aNil)))) (mRt (mBin (addD false) (mBin (addD false) (mSl false (mVar 0) oNone (oSome (mVar 2))) (mTup (aCons (mBin ixD (mVar 1) (mC (.int 3))) (aNil)))) (mSl false (mVar 0) (oSome (mVar 2)) oNone)))) (mNil)) (mSeq (mEx (mCall g_must (aCons (mBin ltD (mVar 2) (mApp lenD (aCons (mVar 0) (aNil)))) (aNil)))) (mSeq (mAsg (mBin (addD false) (mSl false (mVar 0) oNone (oSome (mVar 2))) (mSl false (mVar 0) (oSome (mBin (addD false) (mVar 2) (mC (.int 1)))) oNone)) (gVar 3)) (mSeq (mIfS (tVal (mBin eqO (mBin ixD (mVar 1) (mC (.int 0))) (mC (.str "take")))) (mRt (mVar 3)) (mNil)) (mSeq (mEx (mCall g_must (aCons (mBin ltD (mBin ixD (mVar 1) (mC (.int 3))) (mApp lenD (aCons (mVar 0) (aNil)))) (aNil)))) (mRt (mBin (addD false) (mBin (addD false) (mSl false (mVar 3) oNone (oSome (mBin ixD (mVar 1) (mC (.int 3))))) (mTup (aCons (mBin ixD (mVar 0) (mVar 2)) (aNil)))) (mSl false (mVar 3) (oSome (mBin ixD (mVar 1) (mC (.int 3)))) oNone))))))))
noncomputable def g_on_row : List D → Store → Out D := fnP m_on_row 4 2
theorem call_on_row (d0 d1 : D) (S : Store) : g_on_row [d0, d1] S = gcOut S (frzOut (soOut (m_on_row [some d0, some d1, none, none] S))) := run_def rfl
theorem fn_len_on_row : ∀ (ds : List D) (S : Store), g_on_row ds S ≠ .bad → ds.length = 2 := fnP_len
noncomputable def m_done : MS := mSeq (mEx (mCall g_look_deed (aCons (mVar 1) (aNil)))) (mSeq (mAsg (mSl false (mVar 1) oNone (oSome (mC (.int 2)))) (gTupD 2 (gsCons (gVar 2) (gsCons (gVar 3) (gsNil))))) (mSeq (mIfS (tVal (mBin eqO (mVar 2) (mC (.str "say")))) (mRt (mMeth .dct (copyD false) (mVar 0) aNil)) (mNil)) (mSeq (mIfS (tVal (mBin (inD false) (mVar 2) (mTup (aCons (mC (.str "whole")) (aCons (mC (.str "drop")) (aCons (mC (.str "rename")) (aNil))))))) (mRt (mCall g_on_names (aCons (mVar 0) (aCons (mVar 1) (aNil))))) (mNil)) (mSeq (mEx (mCall g_must (aCons (mAnd (mBin (inD false) (mVar 3) (mVar 0)) (mBin eqO (mBin ixD (mBin ixD (mVar 0) (mVar 3)) (mC (.int 0))) (mBin ixD (mC k_KINDS) (mVar 2)))) (aNil)))) (mSeq (mAsg (mBin ixD (mVar 0) (mVar 3)) (gTupD 2 (gsCons (gVar 4) (gsCons (gVar 5) (gsNil))))) (mSeq (mIfS (tVal (mBin eqO (mVar 4) (mC (.str "text")))) (mRt (mCall g_with_value (aCons (mVar 0) (aCons (mVar 3) (aCons (mTup (aCons (mVar 4) (aCons (mCall g_on_text (aCons (mVar 5) (aCons (mVar 1) (aNil)))) (aNil)))) (aNil)))))) (mNil)) (mSeq (mIfS (tVal (mBin eqO (mVar 4) (mC (.str "row")))) (mRt (mCall g_with_value (aCons (mVar 0) (aCons (mVar 3) (aCons (mTup (aCons (mVar 4) (aCons (mCall g_on_row (aCons (mVar 5) (aCons (mVar 1) (aNil)))) (aNil)))) (aNil)))))) (mNil)) (mSeq (mAsg (mIf (tVal (mBin eqO (mVar 2) (mC (.str "set")))) (mBin ixD (mVar 1) (mC (.int 2))) (mBin (addD false) (mVar 5) (mBin ixD (mVar 1) (mC (.int 2))))) (gVar 6)) (mSeq (mEx (mCall g_must (aCons (mBin leD (mApp absD (aCons (mVar 6) (aNil))) (mC (.int 1000000000))) (aNil)))) (mRt (mCall g_with_value (aCons (mVar 0) (aCons (mVar 3) (aCons (mTup (aCons (mVar 4) (aCons (mVar 6) (aNil)))) (aNil)))))))))))))))
noncomputable def g_done : List D → Store → Out D := fnP m_done 7 2
theorem call_done (d0 d1 : D) (S : Store) : g_done [d0, d1] S = gcOut S (frzOut (soOut (m_done [some d0, some d1, none, none, none, none, none] S))) := run_def rfl
theorem fn_len_done : ∀ (ds : List D) (S : Store), g_done ds S ≠ .bad → ds.length = 2 := fnP_len
noncomputable def m_back : MS := mSeq (mEx (mCall g_done (aCons (mVar 0) (aCons (mVar 1) (aNil))))) (mSeq (mAsg (mSl false (mVar 1) oNone (oSome (mC (.int 2)))) (gTupD 2 (gsCons (gVar 2) (gsCons (gVar 3) (gsNil))))) (mSeq (mIfS (tVal (mBin eqO (mVar 2) (mC (.str "say")))) (mRt (mC .non)) (mNil)) (mSeq (mIfS (tVal (mBin eqO (mVar 2) (mC (.str "whole")))) (mRt (mTup (aCons (mC (.str "drop")) (aCons (mVar 3) (aNil))))) (mNil)) (mSeq (mIfS (tVal (mBin eqO (mVar 2) (mC (.str "drop")))) (mRt (mTup (aCons (mC (.str "whole")) (aCons (mVar 3) (aCons (mBin ixD (mVar 0) (mVar 3)) (aNil)))))) (mNil)) (mSeq (mIfS (tVal (mBin eqO (mVar 2) (mC (.str "rename")))) (mRt (mTup (aCons (mC (.str "rename")) (aCons (mBin ixD (mVar 1) (mC (.int 2))) (aCons (mVar 3) (aNil)))))) (mNil)) (mSeq (mIfS (tVal (mBin eqO (mVar 2) (mC (.str "write")))) (mRt (mTup (aCons (mC (.str "cut")) (aCons (mVar 3) (aCons (mBin ixD (mVar 1) (mC (.int 2))) (aCons (mApp lenD (aCons (mBin ixD (mVar 1) (mC (.int 3))) (aNil))) (aNil))))))) (mNil)) (mSeq (mIfS (tVal (mBin eqO (mVar 2) (mC (.str "cut")))) (mRt (mTup (aCons (mC (.str "write")) (aCons (mVar 3) (aCons (mBin ixD (mVar 1) (mC (.int 2))) (aCons (mSl false (mBin ixD (mBin ixD (mVar 0) (mVar 3)) (mC (.int 1))) (oSome (mBin ixD (mVar 1) (mC (.int 2)))) (oSome (mBin (addD false) (mBin ixD (mVar 1) (mC (.int 2))) (mBin ixD (mVar 1) (mC (.int 3)))))) (aNil))))))) (mNil)) (mSeq (mIfS (tVal (mBin eqO (mVar 2) (mC (.str "put")))) (mRt (mTup (aCons (mC (.str "take")) (aCons (mVar 3) (aCons (mBin ixD (mVar 1) (mC (.int 2))) (aNil)))))) (mNil)) (mSeq (mIfS (tVal (mBin eqO (mVar 2) (mC (.str "take")))) (mRt (mTup (aCons (mC (.str "put")) (aCons (mVar 3) (aCons (mBin ixD (mVar 1) (mC (.int 2))) (aCons (mBin ixD (mBin ixD (mBin ixD (mVar 0) (mVar 3)) (mC (.int 1))) (mBin ixD (mVar 1) (mC (.int 2)))) (aNil))))))) (mNil)) (mSeq (mIfS (tVal (mBin eqO (mVar 2) (mC (.str "move")))) (mRt (mTup (aCons (mC (.str "move")) (aCons (mVar 3) (aCons (mBin ixD (mVar 1) (mC (.int 3))) (aCons (mBin ixD (mVar 1) (mC (.int 2))) (aNil))))))) (mNil)) (mRt (mIf (tVal (mBin eqO (mVar 2) (mC (.str "set")))) (mTup (aCons (mC (.str "set")) (aCons (mVar 3) (aCons (mBin ixD (mBin ixD (mVar 0) (mVar 3)) (mC (.int 1))) (aNil))))) (mTup (aCons (mC (.str "add")) (aCons (mVar 3) (aCons (mBin subD (mC (.int 0)) (mBin ixD (mVar 1) (mC (.int 2)))) (aNil)))))))))))))))))
noncomputable def g_back : List D → Store → Out D := fnP m_back 4 2
theorem call_back (d0 d1 : D) (S : Store) : g_back [d0, d1] S = gcOut S (frzOut (soOut (m_back [some d0, some d1, none, none] S))) := run_def rfl
theorem fn_len_back : ∀ (ds : List D) (S : Store), g_back ds S ≠ .bad → ds.length = 2 := fnP_len
noncomputable def m__law_cell : MS := mSeq (mIfS (tTru (mVar 0)) (mRt (mBin ixD (mVar 0) (mBin modD (mVar 1) (mApp lenD (aCons (mVar 0) (aNil)))))) (mNil)) (mRt (mC (.int 0)))
noncomputable def g__law_cell : List D → Store → Out D := fnP m__law_cell 2 2
theorem call__law_cell (d0 d1 : D) (S : Store) : g__law_cell [d0, d1] S = gcOut S (frzOut (soOut (m__law_cell [some d0, some d1] S))) := run_def rfl
theorem fn_len__law_cell : ∀ (ds : List D) (S : Store), g__law_cell ds S ≠ .bad → ds.length = 2 := fnP_len
noncomputable def m__law_mix : MS := mSeq (mAsg (mBin modD (mBin (addD false) (mCall g__law_cell (aCons (mVar 0) (aCons (mVar 1) (aNil)))) (mBin mulD (mC (.int 104729)) (mBin (addD false) (mVar 1) (mC (.int 1))))) (mC (.int 4294967291))) (gVar 2)) (mSeq (mAsg (mBin modD (mBin powD (mVar 2) (mC (.int 5))) (mC (.int 4294967279))) (gVar 2)) (mRt (mBin modD (mBin (addD false) (mBin mulD (mBin fdivD (mVar 2) (mC (.int 64))) (mC (.int 69621))) (mVar 2)) (mC (.int 4294967231)))))
noncomputable def g__law_mix : List D → Store → Out D := fnP m__law_mix 3 2
theorem call__law_mix (d0 d1 : D) (S : Store) : g__law_mix [d0, d1] S = gcOut S (frzOut (soOut (m__law_mix [some d0, some d1, none] S))) := run_def rfl
theorem fn_len__law_mix : ∀ (ds : List D) (S : Store), g__law_mix ds S ≠ .bad → ds.length = 2 := fnP_len
noncomputable def m__law_draw : MS := mSeq (mEx (mMeth .lst appendD (mVar 1) (aCons (mC (.int 0)) (aNil)))) (mRt (mBin modD (mBin fdivD (mCall g__law_mix (aCons (mVar 0) (aCons (mApp lenD (aCons (mVar 1) (aNil))) (aNil)))) (mC (.int 8))) (mVar 2)))
noncomputable def g__law_draw : List D → Store → Out D := fnP m__law_draw 3 3
theorem call__law_draw (d0 d1 d2 : D) (S : Store) : g__law_draw [d0, d1, d2] S = gcOut S (frzOut (soOut (m__law_draw [some d0, some d1, some d2] S))) := run_def rfl
theorem fn_len__law_draw : ∀ (ds : List D) (S : Store), g__law_draw ds S ≠ .bad → ds.length = 3 := fnP_len
noncomputable def m__law_pick : MS := mRt (mBin ixD (mVar 2) (mCall g__law_draw (aCons (mVar 0) (aCons (mVar 1) (aCons (mApp lenD (aCons (mVar 2) (aNil))) (aNil))))))
noncomputable def g__law_pick : List D → Store → Out D := fnP m__law_pick 3 3
theorem call__law_pick (d0 d1 d2 : D) (S : Store) : g__law_pick [d0, d1, d2] S = gcOut S (frzOut (soOut (m__law_pick [some d0, some d1, some d2] S))) := run_def rfl
theorem fn_len__law_pick : ∀ (ds : List D) (S : Store), g__law_pick ds S ≠ .bad → ds.length = 3 := fnP_len
noncomputable def m__law_refusal : MS := mSeq (mIfS (tVal (mBin (isND false) (mVar 0) (mC .non))) (mRt (mTup (aCons (mC (.str "ok")) (aNil)))) (mNil)) (mSeq (mAsg (mLst false (aCons (mIsi is_BadDeed (mVar 0)) (aCons (mIsi is_BadBoard (mVar 0)) (aCons (mIsi is_BadNumber (mVar 0)) (aNil))))) (gVar 1)) (mSeq (mAsg (mBin (addD false) (mVar 1) (mLst false (aCons (mIsi is_Stuck (mVar 0)) (aCons (mIsi is_Open (mVar 0)) (aCons (mIsi is_Clash (mVar 0)) (aNil)))))) (gVar 1)) (mSeq (mIfS (tOrD (tVal (mBin neO (mMeth .lst countD (mVar 1) (aCons (mC (.bl true)) (aNil))) (mC (.int 1)))) (tNotD (tTru (mIsi is_ValueError (mVar 0))))) (mRt (mTup (aCons (mC (.str "wrong")) (aNil)))) (mNil)) (mRt (mTup (aCons (mC (.str "refused")) (aCons (mBin ixD (mLst false (aCons (mC (.str "deed")) (aCons (mC (.str "board")) (aCons (mC (.str "number")) (aCons (mC (.str "stuck")) (aCons (mC (.str "open")) (aCons (mC (.str "clash")) (aNil)))))))) (mMeth .lst indexD (mVar 1) (aCons (mC (.bl true)) (aNil)))) (aNil))))))))
noncomputable def g__law_refusal : List D → Store → Out D := fnP m__law_refusal 2 1
theorem call__law_refusal (d0 : D) (S : Store) : g__law_refusal [d0] S = gcOut S (frzOut (soOut (m__law_refusal [some d0, none] S))) := run_def rfl
theorem fn_len__law_refusal : ∀ (ds : List D) (S : Store), g__law_refusal ds S ≠ .bad → ds.length = 1 := fnP_len
noncomputable def m__law_signs : MS := mSeq (mAsg (mC (.str "abcdexyz ~;()")) (gVar 3)) (mSeq (mAsg (mC (.str "")) (gVar 4)) (mSeq (mFor (iRng (mVar 2)) (gVar 5) (mAsg (mBin (addD false) (mVar 4) (mBin ixD (mVar 3) (mCall g__law_draw (aCons (mVar 0) (aCons (mVar 1) (aCons (mApp lenD (aCons (mVar 3) (aNil))) (aNil))))))) (gVar 4))) (mRt (mVar 4))))
noncomputable def g__law_signs : List D → Store → Out D := fnP m__law_signs 6 3
theorem call__law_signs (d0 d1 d2 : D) (S : Store) : g__law_signs [d0, d1, d2] S = gcOut S (frzOut (soOut (m__law_signs [some d0, some d1, some d2, none, none, none] S))) := run_def rfl
theorem fn_len__law_signs : ∀ (ds : List D) (S : Store), g__law_signs ds S ≠ .bad → ds.length = 3 := fnP_len
noncomputable def m__law_value : MS := mSeq (mAsg (mCall g__law_draw (aCons (mVar 0) (aCons (mVar 1) (aCons (mC (.int 3)) (aNil))))) (gVar 2)) (mSeq (mIfS (tVal (mBin eqO (mVar 2) (mC (.int 0)))) (mRt (mTup (aCons (mC (.str "text")) (aCons (mCall g__law_signs (aCons (mVar 0) (aCons (mVar 1) (aCons (mCall g__law_draw (aCons (mVar 0) (aCons (mVar 1) (aCons (mC (.int 9)) (aNil))))) (aNil))))) (aNil))))) (mNil)) (mSeq (mIfS (tVal (mBin eqO (mVar 2) (mC (.int 1)))) (mRt (mTup (aCons (mC (.str "row")) (aCons (mApp tupleD (aCons (mLc false (iRng (mCall g__law_draw (aCons (mVar 0) (aCons (mVar 1) (aCons (mC (.int 5)) (aNil)))))) [3] (TgS.g (.one 3)) (tYesD) (mCall g__law_pick (aCons (mVar 0) (aCons (mVar 1) (aCons (mLst false (aCons (mC (.str "one")) (aCons (mC (.str "two")) (aCons (mC (.str "x")) (aNil))))) (aNil)))))) (aNil))) (aNil))))) (mNil)) (mRt (mTup (aCons (mC (.str "number")) (aCons (mCall g__law_pick (aCons (mVar 0) (aCons (mVar 1) (aCons (mLst false (aCons (mC (.int 0)) (aCons (mC (.int 1)) (aCons (mUn negD (mC (.int 7))) (aCons (mC (.int 999999999)) (aCons (mCall g__law_draw (aCons (mVar 0) (aCons (mVar 1) (aCons (mC (.int 99)) (aNil))))) (aNil))))))) (aNil))))) (aNil)))))))
noncomputable def g__law_value : List D → Store → Out D := fnP m__law_value 4 2
theorem call__law_value (d0 d1 : D) (S : Store) : g__law_value [d0, d1] S = gcOut S (frzOut (soOut (m__law_value [some d0, some d1, none, none] S))) := run_def rfl
theorem fn_len__law_value : ∀ (ds : List D) (S : Store), g__law_value ds S ≠ .bad → ds.length = 2 := fnP_len
noncomputable def m__law_board : MS := mSeq (mAsg (mDict0 true) (gVar 2)) (mSeq (mFor (iAt (mLst false (aCons (mC (.str "a")) (aCons (mC (.str "b")) (aCons (mC (.str "c")) (aCons (mC (.str "d")) (aNil))))))) (gVar 3) (mIfS (tVal (mBin gtD (mCall g__law_draw (aCons (mVar 0) (aCons (mVar 1) (aCons (mC (.int 4)) (aNil))))) (mC (.int 0)))) (mPut (mCall g__law_value (aCons (mVar 0) (aCons (mVar 1) (aNil)))) (mVar 2) (mVar 3)) (mNil))) (mRt (mVar 2)))
noncomputable def g__law_board : List D → Store → Out D := fnF m__law_board 4 2
theorem call__law_board (d0 d1 : D) (S : Store) : g__law_board [d0, d1] S = frzOut (soOut (m__law_board [some d0, some d1, none, none] S)) := run_defF rfl
theorem fn_len__law_board : ∀ (ds : List D) (S : Store), g__law_board ds S ≠ .bad → ds.length = 2 := fnF_len
noncomputable def m__law_deed : MS := mSeq (mAsg (mCall g__law_pick (aCons (mVar 0) (aCons (mVar 1) (aCons (mBin (addD false) (mApp (sortedD false) (aCons (mMeth .dct keysD (mVar 2) aNil) (aNil))) (mLst false (aCons (mC (.str "e")) (aCons (mC (.str "a")) (aNil))))) (aNil))))) (gVar 3)) (mSeq (mAsg (mMeth .dct getD2 (mVar 2) (aCons (mVar 3) (aCons (mTup (aCons (mC (.str "none")) (aCons (mC (.str "")) (aNil)))) (aNil)))) (gTupD 2 (gsCons (gVar 4) (gsCons (gVar 5) (gsNil))))) (mSeq (mAsg (mCall g__law_draw (aCons (mVar 0) (aCons (mVar 1) (aCons (mC (.int 10)) (aNil))))) (gVar 6)) (mSeq (mIfS (tOrD (tVal (mBin eqO (mVar 4) (mC (.str "none")))) (tVal (mBin eqO (mVar 6) (mC (.int 0))))) (mSeq (mAsg (mCall g__law_pick (aCons (mVar 0) (aCons (mVar 1) (aCons (mLst false (aCons (mC (.str "e")) (aCons (mC (.str "f")) (aCons (mC (.str "g")) (aCons (mVar 3) (aNil)))))) (aNil))))) (gVar 7)) (mSeq (mAsg (mLst false (aCons (mTup (aCons (mC (.str "whole")) (aCons (mVar 7) (aCons (mCall g__law_value (aCons (mVar 0) (aCons (mVar 1) (aNil)))) (aNil))))) (aCons (mTup (aCons (mC (.str "whole")) (aCons (mVar 3) (aCons (mCall g__law_value (aCons (mVar 0) (aCons (mVar 1) (aNil)))) (aNil))))) (aNil)))) (gVar 8)) (mRt (mCall g__law_pick (aCons (mVar 0) (aCons (mVar 1) (aCons (mBin (addD false) (mVar 8) (mLst false (aCons (mTup (aCons (mC (.str "rename")) (aCons (mVar 3) (aCons (mVar 7) (aNil))))) (aCons (mTup (aCons (mC (.str "drop")) (aCons (mVar 3) (aNil)))) (aCons (mTup (aCons (mC (.str "drop")) (aCons (mVar 3) (aNil)))) (aNil)))))) (aNil)))))))) (mNil)) (mSeq (mIfS (tVal (mBin eqO (mVar 4) (mC (.str "number")))) (mSeq (mAsg (mLst false (aCons (mTup (aCons (mC (.str "set")) (aCons (mVar 3) (aCons (mCall g__law_draw (aCons (mVar 0) (aCons (mVar 1) (aCons (mC (.int 50)) (aNil))))) (aNil))))) (aCons (mTup (aCons (mC (.str "add")) (aCons (mVar 3) (aCons (mBin subD (mCall g__law_draw (aCons (mVar 0) (aCons (mVar 1) (aCons (mC (.int 20)) (aNil))))) (mC (.int 10))) (aNil))))) (aNil)))) (gVar 8)) (mRt (mCall g__law_pick (aCons (mVar 0) (aCons (mVar 1) (aCons (mBin (addD false) (mVar 8) (mLst false (aCons (mTup (aCons (mC (.str "add")) (aCons (mVar 3) (aCons (mC (.int 1000000000)) (aNil))))) (aNil)))) (aNil))))))) (mNil)) (mSeq (mAsg (mApp lenD (aCons (mVar 5) (aNil))) (gVar 9)) (mSeq (mAsg (mCall g__law_draw (aCons (mVar 0) (aCons (mVar 1) (aCons (mBin (addD false) (mBin (addD false) (mVar 9) (mC (.int 1))) (mApp intD (aCons (mBin eqO (mVar 6) (mC (.int 1))) (aNil)))) (aNil))))) (gVar 10)) (mSeq (mIfS (tVal (mBin eqO (mVar 4) (mC (.str "text")))) (mSeq (mIfS (tVal (mBin ltD (mVar 6) (mC (.int 6)))) (mRt (mTup (aCons (mC (.str "write")) (aCons (mVar 3) (aCons (mVar 10) (aCons (mCall g__law_signs (aCons (mVar 0) (aCons (mVar 1) (aCons (mBin (addD false) (mC (.int 1)) (mCall g__law_draw (aCons (mVar 0) (aCons (mVar 1) (aCons (mC (.int 3)) (aNil)))))) (aNil))))) (aNil))))))) (mNil)) (mRt (mTup (aCons (mC (.str "cut")) (aCons (mVar 3) (aCons (mVar 10) (aCons (mBin (addD false) (mC (.int 1)) (mCall g__law_draw (aCons (mVar 0) (aCons (mVar 1) (aCons (mApp maxD (aCons (mC (.int 1)) (aCons (mBin subD (mVar 9) (mVar 10)) (aNil)))) (aNil)))))) (aNil)))))))) (mNil)) (mSeq (mIfS (tVal (mBin ltD (mVar 6) (mC (.int 5)))) (mRt (mTup (aCons (mC (.str "put")) (aCons (mVar 3) (aCons (mVar 10) (aCons (mCall g__law_pick (aCons (mVar 0) (aCons (mVar 1) (aCons (mLst false (aCons (mC (.str "one")) (aCons (mC (.str "two")) (aCons (mC (.str "new")) (aNil))))) (aNil))))) (aNil))))))) (mNil)) (mSeq (mIfS (tVal (mBin ltD (mVar 6) (mC (.int 7)))) (mRt (mTup (aCons (mC (.str "take")) (aCons (mVar 3) (aCons (mVar 10) (aNil)))))) (mNil)) (mRt (mTup (aCons (mC (.str "move")) (aCons (mVar 3) (aCons (mVar 10) (aCons (mCall g__law_draw (aCons (mVar 0) (aCons (mVar 1) (aCons (mBin (addD false) (mVar 9) (mC (.int 1))) (aNil))))) (aNil))))))))))))))))
noncomputable def g__law_deed : List D → Store → Out D := fnP m__law_deed 11 3
theorem call__law_deed (d0 d1 d2 : D) (S : Store) : g__law_deed [d0, d1, d2] S = gcOut S (frzOut (soOut (m__law_deed [some d0, some d1, some d2, none, none, none, none, none, none, none, none] S))) := run_def rfl
theorem fn_len__law_deed : ∀ (ds : List D) (S : Store), g__law_deed ds S ≠ .bad → ds.length = 3 := fnP_len
noncomputable def m__law_edited : MS := mSeq (mAsg (mBin ixD (mVar 1) (mC (.int 2))) (gVar 4)) (mSeq (mAsg (mMeth .dct getD2 (mDict false [(mC (.str "cut"), mBin ixD (mVar 1) (mUn negD (mC (.int 1)))), (mC (.str "take"), mC (.int 1)), (mC (.str "move"), mC (.int 1))]) (aCons (mBin ixD (mVar 1) (mC (.int 0))) (aCons (mC (.int 0)) (aNil)))) (gVar 5)) (mSeq (mIfS (tOrD (tVal (mBin gtD (mBin (addD false) (mVar 4) (mVar 5)) (mApp lenD (aCons (mVar 0) (aNil))))) (tVal (mBin gtD (mBin (addD false) (mApp lenD (aCons (mVar 0) (aNil))) (mApp lenD (aCons (mVar 2) (aNil)))) (mVar 3)))) (mRt (mC .non)) (mNil)) (mSeq (mIfS (tVal (mBin eqO (mBin ixD (mVar 1) (mC (.int 0))) (mC (.str "move")))) (mSeq (mAsg (mBin (addD false) (mSl false (mVar 0) oNone (oSome (mVar 4))) (mSl false (mVar 0) (oSome (mBin (addD false) (mVar 4) (mC (.int 1)))) oNone)) (gVar 6)) (mRt (mIf (tVal (mBin ltD (mBin ixD (mVar 1) (mC (.int 3))) (mApp lenD (aCons (mVar 0) (aNil))))) (mBin (addD false) (mBin (addD false) (mSl false (mVar 6) oNone (oSome (mBin ixD (mVar 1) (mC (.int 3))))) (mSl false (mVar 0) (oSome (mVar 4)) (oSome (mBin (addD false) (mVar 4) (mC (.int 1)))))) (mSl false (mVar 6) (oSome (mBin ixD (mVar 1) (mC (.int 3)))) oNone)) (mC .non)))) (mNil)) (mRt (mBin (addD false) (mBin (addD false) (mSl false (mVar 0) oNone (oSome (mVar 4))) (mVar 2)) (mSl false (mVar 0) (oSome (mBin (addD false) (mVar 4) (mVar 5))) oNone))))))
noncomputable def g__law_edited : List D → Store → Out D := fnP m__law_edited 7 4
theorem call__law_edited (d0 d1 d2 d3 : D) (S : Store) : g__law_edited [d0, d1, d2, d3] S = gcOut S (frzOut (soOut (m__law_edited [some d0, some d1, some d2, some d3, none, none, none] S))) := run_def rfl
theorem fn_len__law_edited : ∀ (ds : List D) (S : Store), g__law_edited ds S ≠ .bad → ds.length = 4 := fnP_len
noncomputable def m__law_done : MS := mSeq (mAsg (mSl false (mVar 1) oNone (oSome (mC (.int 2)))) (gTupD 2 (gsCons (gVar 2) (gsCons (gVar 3) (gsNil))))) (mSeq (mIfS (tVal (mBin eqO (mVar 2) (mC (.str "say")))) (mRt (mVar 0)) (mNil)) (mSeq (mAsg (mMeth .dct (copyD true) (mVar 0) aNil) (gVar 4)) (mSeq (mIfS (tVal (mBin eqO (mVar 2) (mC (.str "whole")))) (mSeq (mPut (mBin ixD (mVar 1) (mC (.int 2))) (mVar 4) (mVar 3)) (mRt (mIf (tAndD (tVal (mBin (inD true) (mVar 3) (mVar 0))) (tVal (mBin leD (mApp lenD (aCons (mVar 4) (aNil))) (mC (.int 20))))) (mVar 4) (mC .non)))) (mNil)) (mSeq (mIfS (tVal (mBin (inD true) (mVar 3) (mVar 0))) (mRt (mC .non)) (mNil)) (mSeq (mAsg (mMeth .dct dpopD (mVar 4) (aCons (mVar 3) (aNil))) (gTupD 2 (gsCons (gVar 5) (gsCons (gVar 6) (gsNil))))) (mSeq (mIfS (tVal (mBin eqO (mVar 2) (mC (.str "drop")))) (mRt (mVar 4)) (mNil)) (mSeq (mIfS (tVal (mBin eqO (mVar 2) (mC (.str "rename")))) (mSeq (mPut (mTup (aCons (mVar 5) (aCons (mVar 6) (aNil)))) (mVar 4) (mBin ixD (mVar 1) (mC (.int 2)))) (mRt (mIf (tVal (mBin (inD true) (mBin ixD (mVar 1) (mC (.int 2))) (mVar 0))) (mVar 4) (mC .non)))) (mNil)) (mSeq (mAsg (mC .non) (gVar 7)) (mSeq (mIfS (tAndD (tVal (mBin eqO (mVar 5) (mC (.str "number")))) (tVal (mBin (inD false) (mVar 2) (mTup (aCons (mC (.str "set")) (aCons (mC (.str "add")) (aNil))))))) (mSeq (mAsg (mIf (tVal (mBin eqO (mVar 2) (mC (.str "set")))) (mBin ixD (mVar 1) (mC (.int 2))) (mBin (addD false) (mVar 6) (mBin ixD (mVar 1) (mC (.int 2))))) (gVar 7)) (mAsg (mIf (tVal (mBin leD (mApp absD (aCons (mVar 7) (aNil))) (mC (.int 1000000000)))) (mVar 7) (mC .non)) (gVar 7))) (mNil)) (mSeq (mIfS (tAndD (tVal (mBin eqO (mVar 5) (mC (.str "text")))) (tVal (mBin (inD false) (mVar 2) (mTup (aCons (mC (.str "write")) (aCons (mC (.str "cut")) (aNil))))))) (mAsg (mCall g__law_edited (aCons (mVar 6) (aCons (mVar 1) (aCons (mIf (tVal (mBin eqO (mVar 2) (mC (.str "write")))) (mBin ixD (mVar 1) (mC (.int 3))) (mC (.str ""))) (aCons (mC (.int 200)) (aNil)))))) (gVar 7)) (mNil)) (mSeq (mIfS (tAndD (tVal (mBin eqO (mVar 5) (mC (.str "row")))) (tVal (mBin (inD false) (mVar 2) (mTup (aCons (mC (.str "put")) (aCons (mC (.str "take")) (aCons (mC (.str "move")) (aNil)))))))) (mAsg (mCall g__law_edited (aCons (mVar 6) (aCons (mVar 1) (aCons (mIf (tVal (mBin eqO (mVar 2) (mC (.str "put")))) (mTup (aCons (mBin ixD (mVar 1) (mC (.int 3))) (aNil))) (mTup (aNil))) (aCons (mC (.int 40)) (aNil)))))) (gVar 7)) (mNil)) (mSeq (mIfS (tVal (mBin (isND false) (mVar 7) (mC .non))) (mRt (mC .non)) (mNil)) (mSeq (mPut (mTup (aCons (mVar 5) (aCons (mVar 7) (aNil)))) (mVar 4) (mVar 3)) (mRt (mVar 4)))))))))))))))
noncomputable def g__law_done : List D → Store → Out D := fnP m__law_done 8 2
theorem call__law_done (d0 d1 : D) (S : Store) : g__law_done [d0, d1] S = gcOut S (frzOut (soOut (m__law_done [some d0, some d1, none, none, none, none, none, none] S))) := run_def rfl
theorem fn_len__law_done : ∀ (ds : List D) (S : Store), g__law_done ds S ≠ .bad → ds.length = 2 := fnP_len
noncomputable def m_joined : MS := mSeq (mEx (mCall g_look_deed (aCons (mVar 0) (aNil)))) (mSeq (mEx (mCall g_look_deed (aCons (mVar 1) (aNil)))) (mSeq (mIfS (tOrD (tVal (mBin neO (mBin ixD (mVar 0) (mC (.int 0))) (mBin ixD (mVar 1) (mC (.int 0))))) (tVal (mBin neO (mBin ixD (mVar 0) (mC (.int 1))) (mBin ixD (mVar 1) (mC (.int 1)))))) (mRt (mC .non)) (mNil)) (mSeq (mAsg (mSl false (mVar 0) oNone (oSome (mC (.int 2)))) (gTupD 2 (gsCons (gVar 2) (gsCons (gVar 3) (gsNil))))) (mSeq (mIfS (tAndD (tVal (mBin eqO (mVar 2) (mC (.str "write")))) (tAndD (tVal (mChain leD leD (mBin ixD (mVar 0) (mC (.int 2))) (mBin ixD (mVar 1) (mC (.int 2))) (mBin (addD false) (mBin ixD (mVar 0) (mC (.int 2))) (mApp lenD (aCons (mBin ixD (mVar 0) (mC (.int 3))) (aNil)))))) (tVal (mBin leD (mBin (addD false) (mApp lenD (aCons (mBin ixD (mVar 0) (mC (.int 3))) (aNil))) (mApp lenD (aCons (mBin ixD (mVar 1) (mC (.int 3))) (aNil)))) (mC (.int 200)))))) (mSeq (mAsg (mBin subD (mBin ixD (mVar 1) (mC (.int 2))) (mBin ixD (mVar 0) (mC (.int 2)))) (gVar 4)) (mRt (mTup (aCons (mC (.str "write")) (aCons (mVar 3) (aCons (mBin ixD (mVar 0) (mC (.int 2))) (aCons (mBin (addD false) (mBin (addD false) (mSl false (mBin ixD (mVar 0) (mC (.int 3))) oNone (oSome (mVar 4))) (mBin ixD (mVar 1) (mC (.int 3)))) (mSl false (mBin ixD (mVar 0) (mC (.int 3))) (oSome (mVar 4)) oNone)) (aNil)))))))) (mNil)) (mSeq (mIfS (tAndD (tVal (mBin eqO (mVar 2) (mC (.str "cut")))) (tVal (mChain leD leD (mBin ixD (mVar 1) (mC (.int 2))) (mBin ixD (mVar 0) (mC (.int 2))) (mBin (addD false) (mBin ixD (mVar 1) (mC (.int 2))) (mBin ixD (mVar 1) (mC (.int 3))))))) (mRt (mTup (aCons (mC (.str "cut")) (aCons (mVar 3) (aCons (mBin ixD (mVar 1) (mC (.int 2))) (aCons (mBin (addD false) (mBin ixD (mVar 0) (mC (.int 3))) (mBin ixD (mVar 1) (mC (.int 3)))) (aNil))))))) (mNil)) (mSeq (mIfS (tAndD (tVal (mBin eqO (mVar 2) (mC (.str "move")))) (tVal (mBin eqO (mBin ixD (mVar 0) (mC (.int 3))) (mBin ixD (mVar 1) (mC (.int 2)))))) (mRt (mTup (aCons (mC (.str "move")) (aCons (mVar 3) (aCons (mBin ixD (mVar 0) (mC (.int 2))) (aCons (mBin ixD (mVar 1) (mC (.int 3))) (aNil))))))) (mNil)) (mSeq (mIfS (tVal (mBin eqO (mVar 2) (mC (.str "set")))) (mRt (mVar 1)) (mNil)) (mSeq (mIfS (tAndD (tVal (mBin eqO (mVar 2) (mC (.str "add")))) (tVal (mBin leD (mApp absD (aCons (mBin (addD false) (mBin ixD (mVar 0) (mC (.int 2))) (mBin ixD (mVar 1) (mC (.int 2)))) (aNil))) (mC (.int 1000000000))))) (mRt (mTup (aCons (mC (.str "add")) (aCons (mVar 3) (aCons (mBin (addD false) (mBin ixD (mVar 0) (mC (.int 2))) (mBin ixD (mVar 1) (mC (.int 2)))) (aNil)))))) (mNil)) (mRt (mC .non))))))))))
noncomputable def g_joined : List D → Store → Out D := fnP m_joined 5 2
theorem call_joined (d0 d1 : D) (S : Store) : g_joined [d0, d1] S = gcOut S (frzOut (soOut (m_joined [some d0, some d1, none, none, none] S))) := run_def rfl
theorem fn_len_joined : ∀ (ds : List D) (S : Store), g_joined ds S ≠ .bad → ds.length = 2 := fnP_len
noncomputable def m_names_of : MS := mSeq (mIfS (tVal (mBin eqO (mBin ixD (mVar 0) (mC (.int 0))) (mC (.str "say")))) (mRt (mLst false (aNil))) (mNil)) (mRt (mIf (tVal (mBin eqO (mBin ixD (mVar 0) (mC (.int 0))) (mC (.str "rename")))) (mLst false (aCons (mBin ixD (mVar 0) (mC (.int 1))) (aCons (mBin ixD (mVar 0) (mC (.int 2))) (aNil)))) (mLst false (aCons (mBin ixD (mVar 0) (mC (.int 1))) (aNil)))))
noncomputable def g_names_of : List D → Store → Out D := fnP m_names_of 1 1
theorem call_names_of (d0 : D) (S : Store) : g_names_of [d0] S = gcOut S (frzOut (soOut (m_names_of [some d0] S))) := run_def rfl
theorem fn_len_names_of : ∀ (ds : List D) (S : Store), g_names_of ds S ≠ .bad → ds.length = 1 := fnP_len
noncomputable def m_span : MS := mSeq (mAsg (mBin ixD (mVar 0) (mC (.int 0))) (gVar 1)) (mSeq (mIfS (tVal (mBin eqO (mVar 1) (mC (.str "write")))) (mRt (mTup (aCons (mBin ixD (mVar 0) (mC (.int 2))) (aCons (mApp lenD (aCons (mBin ixD (mVar 0) (mC (.int 3))) (aNil))) (aCons (mC (.int 0)) (aNil)))))) (mNil)) (mSeq (mIfS (tVal (mBin eqO (mVar 1) (mC (.str "cut")))) (mRt (mTup (aCons (mBin ixD (mVar 0) (mC (.int 2))) (aCons (mC (.int 0)) (aCons (mBin ixD (mVar 0) (mC (.int 3))) (aNil)))))) (mNil)) (mRt (mIf (tVal (mBin eqO (mVar 1) (mC (.str "put")))) (mTup (aCons (mBin ixD (mVar 0) (mC (.int 2))) (aCons (mC (.int 1)) (aCons (mC (.int 0)) (aNil))))) (mTup (aCons (mBin ixD (mVar 0) (mC (.int 2))) (aCons (mC (.int 0)) (aCons (mC (.int 1)) (aNil)))))))))
noncomputable def g_span : List D → Store → Out D := fnP m_span 2 1
theorem call_span (d0 : D) (S : Store) : g_span [d0] S = gcOut S (frzOut (soOut (m_span [some d0, none] S))) := run_def rfl
theorem fn_len_span : ∀ (ds : List D) (S : Store), g_span ds S ≠ .bad → ds.length = 1 := fnP_len
noncomputable def m_moved : MS := mRt (mBin (addD false) (mBin (addD false) (mSl false (mVar 0) oNone (oSome (mC (.int 2)))) (mTup (aCons (mBin (addD false) (mBin ixD (mVar 0) (mC (.int 2))) (mVar 1)) (aNil)))) (mSl false (mVar 0) (oSome (mC (.int 3))) oNone))
noncomputable def g_moved : List D → Store → Out D := fnP m_moved 2 2
theorem call_moved (d0 d1 : D) (S : Store) : g_moved [d0, d1] S = gcOut S (frzOut (soOut (m_moved [some d0, some d1] S))) := run_def rfl
theorem fn_len_moved : ∀ (ds : List D) (S : Store), g_moved ds S ≠ .bad → ds.length = 2 := fnP_len
noncomputable def m_past : MS := mSeq (mAsg (mCall g_span (aCons (mVar 0) (aNil))) (gTupD 3 (gsCons (gVar 2) (gsCons (gVar 3) (gsCons (gVar 4) (gsNil)))))) (mSeq (mAsg (mCall g_span (aCons (mVar 1) (aNil))) (gTupD 3 (gsCons (gVar 5) (gsCons (gVar 6) (gsCons (gVar 7) (gsNil)))))) (mSeq (mIfS (tVal (mBin geD (mVar 5) (mBin (addD false) (mVar 2) (mVar 3)))) (mRt (mTup (aCons (mCall g_moved (aCons (mVar 1) (aCons (mBin subD (mVar 4) (mVar 3)) (aNil)))) (aCons (mVar 0) (aNil))))) (mNil)) (mSeq (mIfS (tVal (mBin leD (mBin (addD false) (mVar 5) (mVar 7)) (mVar 2))) (mRt (mTup (aCons (mVar 1) (aCons (mCall g_moved (aCons (mVar 0) (aCons (mBin subD (mVar 6) (mVar 7)) (aNil)))) (aNil))))) (mNil)) (mRt (mC .non)))))
noncomputable def g_past : List D → Store → Out D := fnP m_past 8 2
theorem call_past (d0 d1 : D) (S : Store) : g_past [d0, d1] S = gcOut S (frzOut (soOut (m_past [some d0, some d1, none, none, none, none, none, none] S))) := run_def rfl
theorem fn_len_past : ∀ (ds : List D) (S : Store), g_past ds S ≠ .bad → ds.length = 2 := fnP_len
noncomputable def m_swapped : MS := mSeq (mEx (mCall g_look_deed (aCons (mVar 0) (aNil)))) (mSeq (mEx (mCall g_look_deed (aCons (mVar 1) (aNil)))) (mSeq (mIfS (tAndD (tVal (mBin eqO (mBin ixD (mVar 0) (mC (.int 0))) (mC (.str "say")))) (tVal (mBin eqO (mBin ixD (mVar 1) (mC (.int 0))) (mC (.str "say"))))) (mRt (mC .non)) (mNil)) (mSeq (mIfS (tNotD (tTru (mLc false (iAt (mCall g_names_of (aCons (mVar 0) (aNil)))) [3] (TgS.g (.one 3)) (tVal (mBin (inD false) (mVar 3) (mCall g_names_of (aCons (mVar 1) (aNil))))) (mVar 3)))) (mRt (mTup (aCons (mVar 1) (aCons (mVar 0) (aNil))))) (mNil)) (mSeq (mIfS (tAndD (tVal (mBin eqO (mBin ixD (mVar 0) (mC (.int 0))) (mC (.str "add")))) (tVal (mBin eqO (mBin ixD (mVar 1) (mC (.int 0))) (mC (.str "add"))))) (mRt (mTup (aCons (mVar 1) (aCons (mVar 0) (aNil))))) (mNil)) (mSeq (mFor (iAt (mTup (aCons (mTup (aCons (mC (.str "write")) (aCons (mC (.str "cut")) (aNil)))) (aCons (mTup (aCons (mC (.str "put")) (aCons (mC (.str "take")) (aNil)))) (aNil))))) (gVar 2) (mIfS (tAndD (tVal (mBin (inD false) (mBin ixD (mVar 0) (mC (.int 0))) (mVar 2))) (tVal (mBin (inD false) (mBin ixD (mVar 1) (mC (.int 0))) (mVar 2)))) (mRt (mCall g_past (aCons (mVar 0) (aCons (mVar 1) (aNil))))) (mNil))) (mRt (mC .non)))))))
noncomputable def g_swapped : List D → Store → Out D := fnP m_swapped 4 2
theorem call_swapped (d0 d1 : D) (S : Store) : g_swapped [d0, d1] S = gcOut S (frzOut (soOut (m_swapped [some d0, some d1, none, none] S))) := run_def rfl
theorem fn_len_swapped : ∀ (ds : List D) (S : Store), g_swapped ds S ≠ .bad → ds.length = 2 := fnP_len
noncomputable def m_all_done : MS := mSeq (mFor (iAt (mVar 1)) (gVar 2) (mAsg (mCall g_done (aCons (mVar 0) (aCons (mVar 2) (aNil)))) (gVar 0))) (mRt (mVar 0))
noncomputable def g_all_done : List D → Store → Out D := fnP m_all_done 3 2
theorem call_all_done (d0 d1 : D) (S : Store) : g_all_done [d0, d1] S = gcOut S (frzOut (soOut (m_all_done [some d0, some d1, none] S))) := run_def rfl
theorem fn_len_all_done : ∀ (ds : List D) (S : Store), g_all_done ds S ≠ .bad → ds.length = 2 := fnP_len
end Dee

set_option maxRecDepth 100000
set_option maxHeartbeats 4000000
namespace Dee
open PySem PySem.Spec L2
/-! ### words, texts, values -/
/-- a text by its codes -/
abbrev Tx (l : List Nat) : Str := ⟨l.toArray⟩
@[simp] theorem tx_len (l : List Nat) : (Tx l).length = l.length := by simp [Str.length]
@[simp] theorem tx_app (l m : List Nat) : Tx l ++ Tx m = Tx (l ++ m) := by
  show (⟨l.toArray ++ m.toArray⟩ : Str) = _
  simp
theorem tx_of (s : Str) : s = Tx s.cps.toList := by obtain ⟨⟨l⟩⟩ := s; rfl
theorem tx_inj {l m : List Nat} : (Tx l = Tx m) = (l = m) := by simp
def small : List Nat := (Str.ofString "abcdefghijklmnopqrstuvwxyz").cps.toList
def wordL (l : List Nat) : Bool := decide (1 ≤ l.length) && decide (l.length ≤ 8) && l.all fun c => decide (c ∈ small)
def textL (l : List Nat) : Bool := decide (l.length ≤ 200) && l.all fun c => decide (32 ≤ c) && decide (c < 127) && decide (c ≠ 37)
theorem mLc_str {me : ME} {δ : Dn} {S : Store} {i j : Nat} {l : List Nat} {p : Nat → Bool} (hv : δ[i]? = some (some (.str (Tx l)))) (hl : l.length ≤ 1000000) (he : ∀ c ∈ l, me ((wipeD δ [j]).set j (some (.str ⟨#[c]⟩))) S = .ok (.bl (p c)) S) :
    mLc false (iAt (mVar i)) [j] (TgS.one j).g tYesD me δ S = .ok (.lst (l.map fun c => D.bl (p c))) S :=
  mLc_map (d := .str (Tx l)) (g := fun c => D.str ⟨#[c]⟩) (h := fun c => D.bl (p c)) (l := l) (by simp [hv]) rfl hl he
theorem run_is_word (l : List Nat) (S : Store) (h : l.length ≤ 1000000) : g_is_word [.str (Tx l)] S = .ok (.bl (wordL l)) S := by
  rw [call_is_word]
  have hlc := mLc_str (me := mBin (inD false) (mVar 1) (mC (.str (Str.ofString "abcdefghijklmnopqrstuvwxyz")))) (δ := [some (.str (Tx l)), none]) (S := S) (i := 0) (j := 1) (p := fun c => decide (c ∈ small)) rfl h (by
    intro c _
    simp [wipeD, small])
  unfold m_is_word
  simp [h, hlc, wordL, asBs_map]
  by_cases h1 : 1 ≤ l.length <;> by_cases h2 : l.length ≤ 8 <;> simp [h1, h2, hlc, asBs_map]
theorem run_is_text (l : List Nat) (S : Store) (h : l.length ≤ 1000000) : g_is_text [.str (Tx l)] S = .ok (.bl (textL l)) S := by
  rw [call_is_text]
  have hlc := mLc_str (me := mAnd (mChain leD ltD (mC (.int 32)) (mApp ordD (aCons (mVar 1) aNil)) (mC (.int 127))) (mBin neO (mApp ordD (aCons (mVar 1) aNil)) (mC (.int 37)))) (δ := [some (.str (Tx l)), none]) (S := S) (i := 0) (j := 1) (p := fun c => decide (32 ≤ c) && decide (c < 127) && decide (c ≠ 37)) rfl h (by
    intro c _
    by_cases h1 : 32 ≤ c <;> by_cases h2 : c < 127 <;> simp [wipeD, h1, h2])
  unfold m_is_text
  simp [h, hlc, textL, asBs_map]
  by_cases h2 : l.length ≤ 200 <;> simp [h2]
def wordS (s : Str) : Bool := wordL s.cps.toList
theorem run_wordS (s : Str) (S : Store) (h : s.length ≤ 1000000) : g_is_word [.str s] S = .ok (.bl (wordS s)) S := by
  conv => lhs; rw [tx_of s]
  exact run_is_word _ S (by simpa [Str.length] using h)
inductive Val where
  | text (l : List Nat) | row (ws : List Str) | num (n : Int)
inductive Deed where
  | say (s : Str) | whole (n : Str) (v : Val) | drop (n : Str) | rename (n m : Str) | write (n : Str) (at_ : Int) (s : List Nat) | cut (n : Str) (at_ k : Int) | put (n : Str) (at_ : Int) (w : Str) | take (n : Str) (at_ : Int) | move (n : Str) (i j : Int)
  | set (n : Str) (x : Int) | add (n : Str) (x : Int)
def encV : Val → D
  | .text l => .tup [.str "text", .str (Tx l)]
  | .row ws => .tup [.str "row", .tup (ws.map .str)]
  | .num n => .tup [.str "number", .int n]
def encD : Deed → D
  | .say s => .tup [.str "say", .str s]
  | .whole n v => .tup [.str "whole", .str n, encV v]
  | .drop n => .tup [.str "drop", .str n]
  | .rename n m => .tup [.str "rename", .str n, .str m]
  | .write n a s => .tup [.str "write", .str n, .int a, .str (Tx s)]
  | .cut n a k => .tup [.str "cut", .str n, .int a, .int k]
  | .put n a w => .tup [.str "put", .str n, .int a, .str w]
  | .take n a => .tup [.str "take", .str n, .int a]
  | .move n i j => .tup [.str "move", .str n, .int i, .int j]
  | .set n x => .tup [.str "set", .str n, .int x]
  | .add n x => .tup [.str "add", .str n, .int x]
theorem ed_whole (n : Str) (v : Val) : encD (.whole n v) = .tup [.str "whole", .str n, encV v] := rfl
theorem ed_drop (n : Str) : encD (.drop n) = .tup [.str "drop", .str n] := rfl
theorem ed_rename (n m : Str) : encD (.rename n m) = .tup [.str "rename", .str n, .str m] := rfl
theorem ed_write (n : Str) (a : Int) (s : List Nat) : encD (.write n a s) = .tup [.str "write", .str n, .int a, .str (Tx s)] := rfl
theorem ed_cut (n : Str) (a k : Int) : encD (.cut n a k) = .tup [.str "cut", .str n, .int a, .int k] := rfl
theorem ed_put (n : Str) (a : Int) (w : Str) : encD (.put n a w) = .tup [.str "put", .str n, .int a, .str w] := rfl
theorem ed_take (n : Str) (a : Int) : encD (.take n a) = .tup [.str "take", .str n, .int a] := rfl
theorem ed_move (n : Str) (i j : Int) : encD (.move n i j) = .tup [.str "move", .str n, .int i, .int j] := rfl
theorem ed_set (n : Str) (x : Int) : encD (.set n x) = .tup [.str "set", .str n, .int x] := rfl
theorem ed_add (n : Str) (x : Int) : encD (.add n x) = .tup [.str "add", .str n, .int x] := rfl
theorem ev_text (l : List Nat) : encV (.text l) = .tup [.str "text", .str (Tx l)] := rfl
theorem ev_row (ws : List Str) : encV (.row ws) = .tup [.str "row", .tup (ws.map .str)] := rfl
theorem ev_num (k : Int) : encV (.num k) = .tup [.str "number", .int k] := rfl
def absI (i : Int) : Int := if i < 0 then -i else i
def okV : Val → Bool
  | .text l => textL l
  | .row ws => decide (ws.length ≤ 40) && ws.all wordS
  | .num n => decide (absI n ≤ 1000000000)
/-- of a size that the machine holds -/
def fitV : Val → Prop
  | .text l => l.length ≤ 1000000
  | .row ws => ws.length ≤ 1000000 ∧ ∀ w ∈ ws, w.length ≤ 1000000
  | .num _ => True
theorem run_is_value (v : Val) (S : Store) (h : fitV v) : g_is_value [encV v] S = .ok (.bl (okV v)) S := by
  rw [call_is_value]
  unfold m_is_value
  cases v with
  | text l => simp [encV, atI, ixN, run_is_text l S h, okV]
  | num n => by_cases hn : n < 0 <;> simp [encV, atI, ixN, okV, absI, hn]
  | row ws =>
    obtain ⟨h1, h2⟩ := h
    have hlc := mLc_map (mi := iAt (mBin ixD (mVar 0) (mC (.int 1)))) (i := 1) (me := mCall g_is_word (aCons (mVar 1) aNil)) (δ := [some (encV (.row ws)), none]) (S := S) (d := .tup (ws.map .str)) (l := ws) (g := D.str) (h := fun w => D.bl (wordS w))
      (by simp [encV, atI, ixN]) rfl h1 (by
        intro w hw
        simp [wipeD, run_wordS w S (h2 w hw)])
    by_cases h3 : ws.length ≤ 40 <;> simp [encV, atI, ixN, okV, h3] <;> simp [encV] at hlc <;> simp [hlc, asBs_map]
theorem run_must (b : Bool) (S : Store) : g_must [.bl b] S = if b = true then .ok .non S else .exn "BadDeed" [] S := by
  rw [call_must]
  unfold m_must
  cases b <;> simp
def nameD : Deed → Str
  | .say s => s
  | .whole n _ => n | .drop n => n | .rename n _ => n | .write n _ _ => n | .cut n _ _ => n | .put n _ _ => n | .take n _ => n | .move n _ _ => n | .set n _ => n | .add n _ => n
def okD : Deed → Bool
  | .say s => wordS s
  | .whole n v => wordS n && okV v
  | .drop n => wordS n
  | .rename n m => wordS n && wordS m
  | .write n a s => wordS n && (decide (0 ≤ a) && (decide (s ≠ []) && textL s))
  | .cut n a k => wordS n && (decide (0 ≤ a) && decide (0 < k))
  | .put n a w => wordS n && (decide (0 ≤ a) && wordS w)
  | .take n a => wordS n && decide (0 ≤ a)
  | .move n i j => wordS n && (decide (0 ≤ i) && decide (0 ≤ j))
  | .set n x => wordS n && decide (absI x ≤ 1000000000)
  | .add n x => wordS n && decide (absI x ≤ 1000000000)
def fitD : Deed → Prop
  | .say s => s.length ≤ 1000000
  | .whole n v => n.length ≤ 1000000 ∧ fitV v
  | .drop n => n.length ≤ 1000000
  | .rename n m => n.length ≤ 1000000 ∧ m.length ≤ 1000000
  | .write n _ s => n.length ≤ 1000000 ∧ s.length ≤ 1000000
  | .cut n _ _ => n.length ≤ 1000000
  | .put n _ w => n.length ≤ 1000000 ∧ w.length ≤ 1000000
  | .take n _ => n.length ≤ 1000000
  | .move n _ _ => n.length ≤ 1000000
  | .set n _ => n.length ≤ 1000000
  | .add n _ => n.length ≤ 1000000
theorem emp {s : List Nat} : (Tx s = Str.ofString "") = (s = []) := by
  have e : Str.ofString "" = Tx [] := by decide +kernel
  rw [e]; simp
theorem run_look (d : Deed) (S : Store) (h : fitD d) (hs : ∀ s, d ≠ .say s) : g_look_deed [encD d] S = if okD d = true then .ok .non S else .exn "BadDeed" [] S := by
  rw [call_look_deed]
  unfold m_look_deed
  cases d with
  | say s => exact absurd rfl (hs s)
  | drop n =>
    have hn : n.length ≤ 1000000 := h
    have hlc : mLc false (iAt (mSl false (mVar 0) (oSome (mC (.int 2))) oNone)) [2] (TgS.one 2).g tYesD (mBin geD (mVar 2) (mC (.int 0))) [some (.tup [.str "drop", .str n]), some (.str "drop"), none] S = .ok (.lst []) S :=
      mLc_map (d := .tup []) (l := ([] : List Int)) (g := D.int) (h := fun i => D.bl (decide (0 ≤ i))) (by simp [cutL, HT.sIx]) rfl (by simp) (by simp)
    by_cases hw : wordS n = true <;> simp [encD, atI, ixN, okD, run_must, run_wordS n S hn, hw, k_SIZES, hlc, List.lookup_cons, asBs] <;> split <;> simp_all
  | whole n v =>
    obtain ⟨hn, hv⟩ := (show n.length ≤ 1000000 ∧ fitV v from h)
    by_cases hw : wordS n = true <;> simp [encD, atI, ixN, okD, run_must, k_SIZES, List.lookup_cons, asBs, absI, run_wordS n S hn, hw, run_is_value v S hv] <;> split <;> simp_all
  | rename n m =>
    obtain ⟨hn, hm⟩ := (show n.length ≤ 1000000 ∧ m.length ≤ 1000000 from h)
    by_cases hw : wordS n = true <;> simp [encD, atI, ixN, okD, run_must, k_SIZES, List.lookup_cons, asBs, absI, run_wordS n S hn, hw, run_wordS m S hm] <;> split <;> simp_all
  | write n a s =>
    obtain ⟨hn, hm⟩ := (show n.length ≤ 1000000 ∧ s.length ≤ 1000000 from h)
    by_cases hw : wordS n = true <;> by_cases ha : 0 ≤ a <;> by_cases he : s = [] <;> simp [encD, atI, ixN, okD, run_must, k_SIZES, List.lookup_cons, asBs, absI, run_wordS n S hn, hw, ha, he, run_is_text s S hm, emp] <;> split <;> simp_all
  | put n a w =>
    obtain ⟨hn, hm⟩ := (show n.length ≤ 1000000 ∧ w.length ≤ 1000000 from h)
    by_cases hw : wordS n = true <;> by_cases ha : 0 ≤ a <;> simp [encD, atI, ixN, okD, run_must, k_SIZES, List.lookup_cons, asBs, absI, run_wordS n S hn, hw, ha, run_wordS w S hm] <;> split <;> simp_all
  | cut n a k =>
    have hn : n.length ≤ 1000000 := h
    by_cases hw : wordS n = true <;> by_cases ha : 0 ≤ a <;> simp [encD, atI, ixN, okD, run_must, k_SIZES, List.lookup_cons, asBs, absI, run_wordS n S hn, hw, ha] <;> split <;> simp_all
  | take n a =>
    have hn : n.length ≤ 1000000 := h
    have hlc : mLc false (iAt (mSl false (mVar 0) (oSome (mC (.int 2))) oNone)) [2] (TgS.one 2).g tYesD (mBin geD (mVar 2) (mC (.int 0))) [some (.tup [.str "take", .str n, .int a]), some (.str "take"), none] S = .ok (.lst (([a] : List Int).map fun i => D.bl (decide (0 ≤ i)))) S :=
      mLc_map (d := .tup [.int a]) (l := ([a] : List Int)) (g := D.int) (h := fun i => D.bl (decide (0 ≤ i))) (by simp [cutL, HT.sIx, encD]) rfl (by simp) (by intro x hx; simp [wipeD])
    by_cases hw : wordS n = true <;> by_cases ha : 0 ≤ a <;> simp [encD, atI, ixN, okD, run_must, k_SIZES, List.lookup_cons, asBs, absI, run_wordS n S hn, hw, ha, hlc] <;> split <;> simp_all
  | move n i j =>
    have hn : n.length ≤ 1000000 := h
    have hlc : mLc false (iAt (mSl false (mVar 0) (oSome (mC (.int 2))) oNone)) [2] (TgS.one 2).g tYesD (mBin geD (mVar 2) (mC (.int 0))) [some (.tup [.str "move", .str n, .int i, .int j]), some (.str "move"), none] S = .ok (.lst (([i, j] : List Int).map fun i => D.bl (decide (0 ≤ i)))) S :=
      mLc_map (d := .tup [.int i, .int j]) (l := ([i, j] : List Int)) (g := D.int) (h := fun i => D.bl (decide (0 ≤ i))) (by simp [cutL, HT.sIx, encD]) rfl (by simp) (by intro x hx; simp [wipeD])
    by_cases hw : wordS n = true <;> by_cases ha : 0 ≤ i <;> by_cases hb : 0 ≤ j <;> simp [encD, atI, ixN, okD, run_must, k_SIZES, List.lookup_cons, asBs, absI, run_wordS n S hn, hw, ha, hb, hlc] <;> split <;> simp_all
  | set n x =>
    have hn : n.length ≤ 1000000 := h
    by_cases hw : wordS n = true <;> by_cases hx : x < 0 <;> simp [encD, atI, ixN, okD, run_must, k_SIZES, List.lookup_cons, asBs, absI, run_wordS n S hn, hw, hx] <;> split <;> simp_all
  | add n x =>
    have hn : n.length ≤ 1000000 := h
    by_cases hw : wordS n = true <;> by_cases hx : x < 0 <;> simp [encD, atI, ixN, okD, run_must, k_SIZES, List.lookup_cons, asBs, absI, run_wordS n S hn, hw, hx] <;> split <;> simp_all
end Dee

set_option maxRecDepth 100000
set_option maxHeartbeats 4000000
namespace Dee
open PySem PySem.Spec L2
theorem cut_to {α : Type} (l : List α) {v : Int} (h : 0 ≤ v) : cutL l none (some v) = l.take v.toNat := by
  unfold cutL HT.sIx
  have : ¬ v < 0 := by omega
  simp only [this, if_false, List.drop_zero, Nat.sub_zero]
  rcases Nat.le_total v.toNat l.length with hl | hl
  · rw [Nat.min_eq_left hl]
  · rw [Nat.min_eq_right hl, List.take_length, List.take_of_length_le hl]
theorem cut_from {α : Type} (l : List α) {v : Int} (h : 0 ≤ v) : cutL l (some v) none = l.drop v.toNat := by
  unfold cutL HT.sIx
  have : ¬ v < 0 := by omega
  simp only [this, if_false]
  rcases Nat.le_total v.toNat l.length with hl | hl
  · rw [Nat.min_eq_left hl, List.take_of_length_le (by rw [List.length_drop]; omega)]
  · rw [Nat.min_eq_right hl, List.drop_length, List.drop_of_length_le hl]; simp
@[simp] theorem cut2 {α : Type} (a b : α) (l : List α) : cutL (a :: b :: l) none (some 2) = [a, b] := by
  rw [cut_to _ (by decide)]; rfl
def tagD : Deed → String
  | .say _ => "say" | .whole _ _ => "whole" | .drop _ => "drop" | .rename _ _ => "rename" | .write _ _ _ => "write" | .cut _ _ _ => "cut" | .put _ _ _ => "put" | .take _ _ => "take" | .move _ _ _ => "move" | .set _ _ => "set" | .add _ _ => "add"
def restD : Deed → List D
  | .say _ => [] | .whole _ v => [encV v] | .drop _ => [] | .rename _ m => [.str m] | .write _ a s => [.int a, .str (Tx s)] | .cut _ a k => [.int a, .int k] | .put _ a w => [.int a, .str w] | .take _ a => [.int a]
  | .move _ i j => [.int i, .int j] | .set _ x => [.int x] | .add _ x => [.int x]
theorem enc_eq (d : Deed) : encD d = .tup (.str (tagD d) :: .str (nameD d) :: restD d) := by cases d <;> rfl
theorem atI0 {α : Type} (x : α) (l : List α) : atI (x :: l) 0 = some x := by
  unfold atI ixN
  simp
theorem atI1 {α : Type} (x y : α) (l : List α) : atI (x :: y :: l) 1 = some y := by
  unfold atI ixN
  have : (1 : Int) < ((x :: y :: l).length : Nat) := by simp only [List.length_cons]; omega
  simp only [this, if_true]
  simp
def joinD : Deed → Deed → Option Deed
  | .write n p s, .write m q u => if n = m ∧ p ≤ q ∧ q ≤ p + s.length ∧ s.length + u.length ≤ 200 then some (.write n p (s.take (q - p).toNat ++ u ++ s.drop (q - p).toNat)) else none
  | .cut n p k, .cut m q j => if n = m ∧ q ≤ p ∧ p ≤ q + j then some (.cut n q (k + j)) else none
  | .move n i j, .move m i' j' => if n = m ∧ j = i' then some (.move n i j') else none
  | .set n x, .set m y => if n = m then some (.set n y) else none
  | .add n x, .add m y => if n = m ∧ absI (x + y) ≤ 1000000000 then some (.add n (x + y)) else none
  | _, _ => none
def encO : Option Deed → D
  | some d => encD d
  | none => .non
theorem join_ne {a b : Deed} (h : tagD a ≠ tagD b ∨ nameD a ≠ nameD b) : joinD a b = none := by
  cases a <;> cases b <;> simp_all [joinD, tagD, nameD]
theorem textL_len {l : List Nat} (h : textL l = true) : l.length ≤ 200 := by
  unfold textL at h
  rw [Bool.and_eq_true, decide_eq_true_eq] at h
  exact h.1
theorem run_joined (a b : Deed) (S : Store) (fa : fitD a) (fb : fitD b) (sa : ∀ s, a ≠ .say s) (sb : ∀ s, b ≠ .say s) (oa : okD a = true) (ob : okD b = true) : g_joined [encD a, encD b] S = .ok (encO (joinD a b)) S := by
  rw [call_joined]
  have la := run_look a S fa sa
  have lb := run_look b S fb sb
  rw [if_pos oa] at la
  rw [if_pos ob] at lb
  by_cases hne : tagD a ≠ tagD b ∨ nameD a ≠ nameD b
  · rw [join_ne hne]
    unfold m_joined
    rw [enc_eq] at la lb
    rw [enc_eq, enc_eq]
    by_cases ht : tagD a = tagD b
    · have hn : nameD a ≠ nameD b := hne.resolve_left fun z => z ht
      rw [ht] at la
      simp [la, lb, atI0, atI1, ht, hn, encO]
    · simp [la, lb, atI0, atI1, ht, encO]
  · have ht : tagD a = tagD b := by
      by_cases h : tagD a = tagD b
      · exact h
      · exact absurd (.inl h) hne
    have hn : nameD a = nameD b := by
      by_cases h : nameD a = nameD b
      · exact h
      · exact absurd (.inr h) hne
    clear hne
    unfold m_joined
    cases a <;> cases b <;> first
      | (exfalso; simp [tagD] at ht; done)
      | (exfalso; exact sa _ rfl)
      | skip
    all_goals (simp only [nameD] at hn; subst hn)
    · simp [encD] at la lb ⊢
      simp [la, lb, atI0, atI1, joinD, encO]
    · simp [encD] at la lb ⊢
      simp [la, lb, atI0, atI1, joinD, encO]
    · simp [encD] at la lb ⊢
      simp [la, lb, atI0, atI1, joinD, encO]
    · have hs := textL_len (l := _) ((Bool.and_eq_true_iff.mp (Bool.and_eq_true_iff.mp (Bool.and_eq_true_iff.mp oa).2).2).2)
      have hu := textL_len (l := _) ((Bool.and_eq_true_iff.mp (Bool.and_eq_true_iff.mp (Bool.and_eq_true_iff.mp ob).2).2).2)
      rename_i n p s q u
      simp [encD] at la lb ⊢
      have hs1 : s.length ≤ 1000000 := by omega
      have hu1 : u.length ≤ 1000000 := by omega
      by_cases h1 : p ≤ q
      · by_cases h2 : q ≤ p + s.length
        · by_cases h3 : s.length + u.length ≤ 200
          · have h3' : (s.length : Int) + u.length ≤ 200 := by omega
            have h4 : 0 ≤ q - p := by omega
            have h5 : min (q - p).toNat s.length + u.length ≤ 1000000 := by omega
            have h6 : min (q - p).toNat s.length + (u.length + (s.length - (q - p).toNat)) ≤ 1000000 := by omega
            have h7 : min (q - p).toNat s.length + u.length + (s.length - (q - p).toNat) ≤ 1000000 := by omega
            simp [la, lb, atI, ixN, hs1, hu1, h1, h2, h3, h3', joinD, encO, encD, cut_to _ h4, cut_from _ h4, h5, h6, h7]
          · have h3' : ¬ (s.length : Int) + u.length ≤ 200 := by omega
            simp [la, lb, atI, ixN, hs1, hu1, h1, h2, h3, h3', joinD, encO]
        · simp [la, lb, atI, ixN, hs1, hu1, h1, h2, joinD, encO]
      · simp [la, lb, atI, ixN, hs1, hu1, h1, joinD, encO]
    · rename_i n p k q j
      simp [encD] at la lb ⊢
      by_cases h1 : q ≤ p
      · by_cases h2 : p ≤ q + j <;> simp [la, lb, atI, ixN, h1, h2, joinD, encO, encD]
      · simp [la, lb, atI, ixN, h1, joinD, encO]
    · simp [encD] at la lb ⊢
      simp [la, lb, atI0, atI1, joinD, encO]
    · simp [encD] at la lb ⊢
      simp [la, lb, atI0, atI1, joinD, encO]
    · rename_i n i j i' j'
      simp [encD] at la lb ⊢
      by_cases h1 : j = i'
      · subst h1
        simp [la, lb, atI, ixN, joinD, encO, encD]
      · simp [la, lb, atI, ixN, h1, joinD, encO, encD]
    · simp [encD] at la lb ⊢
      simp [la, lb, atI, ixN, joinD, encO, encD]
    · rename_i n x y
      simp [encD] at la lb ⊢
      by_cases h1 : absI (x + y) ≤ 1000000000
      · have h2 : (if x + y < 0 then -(x + y) else x + y) ≤ 1000000000 := h1
        simp [la, lb, atI, ixN, h1, h2, joinD, encO, encD]
      · have h2 : ¬ (if x + y < 0 then -(x + y) else x + y) ≤ 1000000000 := h1
        simp [la, lb, atI, ixN, h1, h2, joinD, encO, encD]
end Dee

set_option maxRecDepth 100000
set_option maxHeartbeats 4000000
namespace Dee
open PySem PySem.Spec L2
/-! ### draws -/
abbrev sc (ns : List Int) : D := .rol (ns.map D.int)
abbrev tw (t : Nat) : Cell := .lst (List.replicate t (.int 0))
theorem atI_in {α : Type} (l : List α) {i : Int} (h0 : 0 ≤ i) (h1 : i < l.length) : ∃ x ∈ l, atI l i = some x := by
  have h : i.toNat < l.length := by omega
  refine ⟨l[i.toNat], List.getElem_mem h, ?_⟩
  unfold atI ixN
  rw [if_pos h0, if_pos h1]
  exact List.getElem?_eq_getElem h
theorem run_cell (ns : List Int) (S : Store) {k : Int} (hk : 0 ≤ k) : ∃ c, g__law_cell [sc ns, .int k] S = .ok (.int c) S := by
  rw [call__law_cell]
  unfold m__law_cell
  cases ns with
  | nil => exact ⟨0, by simp⟩
  | cons a r =>
    have hl : (0 : Int) < ((a :: r).map D.int).length := by simp only [List.map_cons, List.length_cons]; omega
    obtain ⟨x, hx, e⟩ := atI_in ((a :: r).map D.int) (i := k % (((a :: r).map D.int).length : Nat)) (Int.emod_nonneg _ (by omega)) (Int.emod_lt_of_pos _ hl)
    obtain ⟨c, _, rfl⟩ := List.mem_map.mp hx
    refine ⟨c, ?_⟩
    have hl2 : (0 : Int) < (r.length : Int) + 1 := by omega
    have e2 : atI (D.int a :: r.map D.int) (k % ((r.length : Int) + 1)) = some (.int c) := by simpa using e
    simp [hl2, e2]
theorem run_mix (ns : List Int) (S : Store) {k : Int} (hk : 0 ≤ k) : ∃ c, g__law_mix [sc ns, .int k] S = .ok (.int c) S := by
  obtain ⟨c, hc⟩ := run_cell ns S hk
  rw [call__law_mix]
  unfold m__law_mix
  have h1 : ((c + 104729 * (k + 1)) % 4294967291).natAbs < 2 ^ 64 := by omega
  exact ⟨_, by simp [hc, h1]; rfl⟩
theorem run_draw (ns : List Int) (R : Store) {t : Nat} {m : Int} (ht : t < 900000) (hm : 0 < m) : ∃ k, 0 ≤ k ∧ k < m ∧ g__law_draw [sc ns, .loc 0, .int m] (tw t :: R) = .ok (.int k) (tw (t + 1) :: R) := by
  obtain ⟨c, hc⟩ := run_mix ns (tw (t + 1) :: R) (k := ((t + 1 : Nat) : Int)) (by omega)
  refine ⟨c / 8 % m, Int.emod_nonneg _ (by omega), Int.emod_lt_of_pos _ hm, ?_⟩
  rw [call__law_draw]
  unfold m__law_draw
  have ht2 : t < 1000000 := by omega
  have e : List.replicate t (D.int 0) ++ [.int 0] = List.replicate (t + 1) (.int 0) := by rw [← List.replicate_succ']
  have hc' : g__law_mix [sc ns, .int ((t : Int) + 1)] (tw (t + 1) :: R) = .ok (.int c) (tw (t + 1) :: R) := by simpa using hc
  simp [asL, isK, appendD, cellL, ht2, lenD, asQ, e, hc', hm]
theorem frz_of {d : D} {S : Store} (h : ∀ n, d ≠ .loc n) : frzOut (.ok d S) = .ok d S := by
  cases d <;> first | rfl | exact absurd rfl (h _)
theorem run_pick (ns : List Int) (R : Store) {t : Nat} {ds : List D} (ht : t < 900000) (hd : ds ≠ []) (hn : ∀ d ∈ ds, ∀ n, d ≠ .loc n) : ∃ d ∈ ds, g__law_pick [sc ns, .loc 0, .lst ds] (tw t :: R) = .ok d (tw (t + 1) :: R) := by
  have hl : (0 : Int) < (ds.length : Int) := by
    have := List.length_pos_iff.mpr hd
    omega
  obtain ⟨k, h0, h1, hk⟩ := run_draw ns R ht hl
  obtain ⟨d, hm, e⟩ := atI_in ds h0 h1
  refine ⟨d, hm, ?_⟩
  rw [call__law_pick]
  unfold m__law_pick
  simp [hk, e, frz_of (hn d hm)]
/-- a walk over a range -/
theorem forN_rng {g : MG} {b : MS} {lo : Int} {n : Nat} (Inv : Nat → Dn → Store → Prop) (hs : ∀ i δ S, i < n → Inv i δ S → ∃ δ1, g (.int (lo + i)) δ S = some δ1 ∧ ∃ δ2 S2, b δ1 S = .nx δ2 S2 ∧ Inv (i + 1) δ2 S2) :
    ∀ (k i : Nat) (δ : Dn) (S : Store), i + k = n → Inv i δ S → ∃ δ' S', forN (.rng lo n) g b (k + 1) i δ S = .nx δ' S' ∧ Inv n δ' S'
  | 0, i, δ, S, e, h => by
    have : i = n := by omega
    subst this
    refine ⟨δ, S, ?_, h⟩
    unfold forN
    simp [nxtD]
  | k + 1, i, δ, S, e, h => by
    have hi : i < n := by omega
    obtain ⟨δ1, e1, δ2, S2, e2, h2⟩ := hs i δ S hi h
    obtain ⟨δ', S', e3, h3⟩ := forN_rng Inv hs k (i + 1) δ2 S2 (by omega) h2
    refine ⟨δ', S', ?_, h3⟩
    unfold forN
    simp only [nxtD, if_pos hi, e1, e2]
    exact e3
/-- a block over a range -/
theorem lcN_rng {ts : TgS} {me : ME} {δ : Dn} {lo : Int} {n : Nat} {α : Type} (h : α → D) (p : α → Prop) (Inv : Nat → Store → Prop) (hs : ∀ i S, i < n → Inv i S → ∃ δ1, ts.g (.int (lo + i)) δ S = some δ1 ∧ ∃ d S2, me δ1 S = .ok (h d) S2 ∧ p d ∧ Inv (i + 1) S2) :
    ∀ (k i : Nat) (acc : List α) (S : Store), i + k = n → acc.length + k ≤ 1000000 → (∀ x ∈ acc, p x) → Inv i S → ∃ (l : List α) (S' : Store), lcN (.rng lo n) ts.g tYesD me δ (k + 1) i (acc.map h) S = .ok (l.map h) S' ∧ l.length = acc.length + k ∧ (∀ x ∈ l, p x) ∧ Inv n S'
  | 0, i, acc, S, e, _, ha, hh => by
    have : i = n := by omega
    subst this
    refine ⟨acc, S, ?_, rfl, ha, hh⟩
    unfold lcN
    simp [nxtD]
  | k + 1, i, acc, S, e, hl, ha, hh => by
    have hi : i < n := by omega
    obtain ⟨δ1, e1, d, S2, e2, hp, h2⟩ := hs i S hi hh
    obtain ⟨l, S', e3, e4, e5, e6⟩ := lcN_rng h p Inv hs k (i + 1) (acc ++ [d]) S2 (by omega) (by rw [List.length_append, List.length_singleton]; omega) (fun x hx => by
      rcases List.mem_append.mp hx with hx | hx
      · exact ha x hx
      · rw [List.mem_singleton.mp hx]; exact hp) h2
    refine ⟨l, S', ?_, by rw [e4, List.length_append, List.length_singleton]; omega, e5, e6⟩
    unfold lcN
    rw [List.map_append] at e3
    have hlt : (acc.map h).length < 1000000 := by rw [List.length_map]; omega
    simp only [nxtD, if_pos hi, e1, tYesD, bind_ok, if_true, e2, if_pos hlt]
    exact e3
def signL : List Nat := (Str.ofString "abcdexyz ~;()").cps.toList
theorem signL_ok : signL.all (fun c => decide (32 ≤ c) && decide (c < 127) && decide (c ≠ 37)) = true := by decide +kernel
theorem signL_len : signL.length = 13 := by decide +kernel
theorem run_signs (ns : List Int) (R : Store) {t : Nat} {m : Int} (h0 : 0 ≤ m) (hm : m ≤ 1000) (ht : t < 800000) : ∃ l : List Nat, (l.length : Int) = m ∧ (∀ c ∈ l, c ∈ signL) ∧ g__law_signs [sc ns, .loc 0, .int m] (tw t :: R) = .ok (.str (Tx l)) (tw (t + m.toNat) :: R) := by
  rw [call__law_signs]
  obtain ⟨δ', S', e, l, e1, e2, e3, e4⟩ := forN_rng (g := gVar 5) (b := mAsg (mBin (addD false) (mVar 4) (mBin ixD (mVar 3) (mCall g__law_draw (aCons (mVar 0) (aCons (mVar 1) (aCons (mApp lenD (aCons (mVar 3) aNil)) aNil)))))) (gVar 4)) (lo := 0) (n := m.toNat)
    (fun i δ S => ∃ l : List Nat, l.length = i ∧ (∀ c ∈ l, c ∈ signL) ∧ (∃ v, δ = [some (sc ns), some (.loc 0), some (.int m), some (.str (Str.ofString "abcdexyz ~;()")), some (.str (Tx l)), v]) ∧ S = tw (t + i) :: R) (by
      rintro i δ S hi ⟨l, hl, hs, ⟨v, rfl⟩, rfl⟩
      obtain ⟨k, k0, k1, hk⟩ := run_draw ns R (t := t + i) (m := 13) (by omega) (by decide)
      obtain ⟨c, hc, ec⟩ := atI_in signL (i := k) k0 (by rw [signL_len]; omega)
      have hll : (Str.ofString "abcdexyz ~;()").length = 13 := by decide +kernel
      have h5 : l.length ≤ 999999 := by omega
      refine ⟨_, rfl, [some (sc ns), some (.loc 0), some (.int m), some (.str (Str.ofString "abcdexyz ~;()")), some (.str (Tx (l ++ [c]))), some (.int (0 + (i : Int)))], tw (t + (i + 1)) :: R, ?_, l ++ [c], by simp [hl], fun x hx => ?_, ⟨_, rfl⟩, rfl⟩
      · simp [hll, hk, show (Str.ofString "abcdexyz ~;()").cps.toList = signL from rfl, ec, h5, Nat.add_assoc]
      · rcases List.mem_append.mp hx with hx | hx
        · exact hs x hx
        · rw [List.mem_singleton.mp hx]; exact hc) m.toNat 0 _ (tw t :: R) (by omega) ⟨[], rfl, by simp, ⟨none, rfl⟩, rfl⟩
  obtain ⟨v, rfl⟩ := e3
  subst e4
  refine ⟨l, by omega, e2, ?_⟩
  unfold m__law_signs
  have hm1 : -1000000000 ≤ m := by omega
  have hm2 : m < 1000000000 := by omega
  have em : (Str.ofString "") = Tx [] := by decide +kernel
  simp only [ap_seq, ap_asg, ap_c, then_ok, g_var, seq_nx, ap_for, ap_iRng, ap_var, em]
  simp [hm1, hm2, cntD, e]
end Dee

set_option maxRecDepth 100000
set_option maxHeartbeats 4000000
namespace Dee
open PySem PySem.Spec L2
theorem frz_encV (v : Val) (S : Store) : frzOut (.ok (encV v) S) = .ok (encV v) S := by cases v <;> rfl
theorem words3 : ∀ w ∈ ([Str.ofString "one", Str.ofString "two", Str.ofString "x"] : List Str), wordS w = true ∧ w.length ≤ 1000000 := by decide +kernel
theorem textL_of {l : List Nat} (h : l.length ≤ 200) (hs : ∀ c ∈ l, c ∈ signL) : textL l = true := by
  unfold textL
  rw [Bool.and_eq_true, decide_eq_true_eq, List.all_eq_true]
  exact ⟨h, fun c hc => List.all_eq_true.mp signL_ok c (hs c hc)⟩
def wordsV : List Str := [Str.ofString "one", Str.ofString "two", Str.ofString "x"]
/-- a value as it is drawn -/
def drawnV : Val → Prop
  | .text l => l.length ≤ 8 ∧ ∀ c ∈ l, c ∈ signL
  | .row ws => ws.length ≤ 4 ∧ ∀ w ∈ ws, w ∈ wordsV
  | .num n => -7 ≤ n ∧ n ≤ 999999999 ∧ (n = 999999999 ∨ n < 99)
theorem run_value2 (ns : List Int) (R : Store) {t : Nat} (ht : t < 700000) : ∃ v t', drawnV v ∧ okV v = true ∧ fitV v ∧ t ≤ t' ∧ t' ≤ t + 20 ∧ g__law_value [sc ns, .loc 0] (tw t :: R) = .ok (encV v) (tw t' :: R) := by
  rw [call__law_value]
  obtain ⟨way, w0, w1, hw⟩ := run_draw ns R (t := t) (m := 3) (by omega) (by decide)
  unfold m__law_value
  by_cases h0 : way = 0
  · subst h0
    obtain ⟨m, m0, m1, hm⟩ := run_draw ns R (t := t + 1) (m := 9) (by omega) (by decide)
    obtain ⟨l, l0, l1, hl⟩ := run_signs ns R (t := t + 1 + 1) (m := m) m0 (by omega) (by omega)
    have hl2 : l.length ≤ 200 := by omega
    refine ⟨.text l, t + 1 + 1 + m.toNat, ⟨by omega, l1⟩, textL_of hl2 l1, (show l.length ≤ 1000000 by omega), by omega, by omega, ?_⟩
    simp [hw, hm, hl, encV]
  · by_cases h1 : way = 1
    · subst h1
      obtain ⟨m, m0, m1, hm⟩ := run_draw ns R (t := t + 1) (m := 5) (by omega) (by decide)
      obtain ⟨ws, S', e, e1, e2, e3⟩ := lcN_rng (ts := .one 3) (me := mCall g__law_pick (aCons (mVar 0) (aCons (mVar 1) (aCons (mLst false (aCons (mC (.str "one")) (aCons (mC (.str "two")) (aCons (mC (.str "x")) aNil)))) aNil)))) (δ := [some (sc ns), some (.loc 0), some (.int 1), none]) (lo := 0) (n := m.toNat) D.str (fun w => w ∈ ([Str.ofString "one", Str.ofString "two", Str.ofString "x"] : List Str))
        (fun i S => S = tw (t + 2 + i) :: R) (by
          rintro i S hi rfl
          obtain ⟨d, hd, hp⟩ := run_pick ns R (t := t + 2 + i) (ds := [.str "one", .str "two", .str "x"]) (by omega) (by simp) (by simp)
          have ⟨w, hw, e⟩ : ∃ w ∈ ([Str.ofString "one", Str.ofString "two", Str.ofString "x"] : List Str), d = .str w := by
            simp only [List.mem_cons, List.not_mem_nil, or_false] at hd
            rcases hd with rfl | rfl | rfl
            · exact ⟨_, by simp, rfl⟩
            · exact ⟨_, by simp, rfl⟩
            · exact ⟨_, by simp, rfl⟩
          subst e
          exact ⟨_, rfl, w, _, by simp [TgS.g, hp]; rfl, hw, by rw [Nat.add_assoc (t + 2)]⟩) m.toNat 0 [] (tw (t + 2) :: R) (by omega) (by simp; omega) (by simp) rfl
      refine ⟨.row ws, t + 2 + m.toNat, ⟨by rw [e1]; simp; omega, e2⟩, ?_, ?_, by omega, by omega, ?_⟩
      · show (decide (ws.length ≤ 40) && ws.all wordS) = true
        rw [Bool.and_eq_true, decide_eq_true_eq, List.all_eq_true]
        refine ⟨by rw [e1]; simp; omega, fun w hw => (words3 w (e2 w hw)).1⟩
      · refine ⟨by rw [e1]; simp; omega, fun w hw => (words3 w (e2 w hw)).2⟩
      · subst e3
        have hm1 : -1000000000 ≤ m := by omega
        have hm2 : m < 1000000000 := by omega
        simp [hw, mLc, hm, hm1, hm2, wipeD, cntD, encV]
        simp at e
        rw [e]
        simp [lcR]
    · obtain ⟨x, x0, x1, hx⟩ := run_draw ns R (t := t + 1) (m := 99) (by omega) (by decide)
      obtain ⟨d, hd, hp⟩ := run_pick ns R (t := t + 1 + 1) (ds := [.int 0, .int 1, .int (-7), .int 999999999, .int x]) (by omega) (by simp) (by simp)
      have ⟨y, hy, e, hdr⟩ : ∃ y : Int, absI y ≤ 1000000000 ∧ d = .int y ∧ (-7 ≤ y ∧ y ≤ 999999999 ∧ (y = 999999999 ∨ y < 99)) := by
        simp only [List.mem_cons, List.not_mem_nil, or_false] at hd
        rcases hd with rfl | rfl | rfl | rfl | rfl
        · exact ⟨_, by decide, rfl, by omega⟩
        · exact ⟨_, by decide, rfl, by omega⟩
        · exact ⟨_, by decide, rfl, by omega⟩
        · exact ⟨_, by decide, rfl, by omega⟩
        · exact ⟨_, by unfold absI; split <;> omega, rfl, by omega⟩
      subst e
      refine ⟨.num y, t + 1 + 1 + 1, hdr, decide_eq_true hy, True.intro, by omega, by omega, ?_⟩
      simp [hw, h0, h1, hx, hp, encV]
theorem run_value (ns : List Int) (R : Store) {t : Nat} (ht : t < 700000) : ∃ v t', okV v = true ∧ fitV v ∧ t ≤ t' ∧ t' ≤ t + 20 ∧ g__law_value [sc ns, .loc 0] (tw t :: R) = .ok (encV v) (tw t' :: R) :=
  let ⟨v, t', _, h⟩ := run_value2 ns R ht; ⟨v, t', h⟩
end Dee

set_option maxRecDepth 100000
set_option maxHeartbeats 4000000
namespace Dee
open PySem PySem.Spec L2
/-! ### the law's own edits -/
theorem atI2 {α : Type} (x y z : α) (l : List α) : atI (x :: y :: z :: l) 2 = some z := by
  unfold atI ixN
  have : (2 : Int) < ((x :: y :: z :: l).length : Nat) := by simp only [List.length_cons]; omega
  simp only [this, if_true]
  simp
def cutEnd : D := .str ""
theorem emp2 : Str.ofString "" = Tx [] := by decide +kernel
@[simp] theorem tx_toL (l : List Nat) : (Tx l).cps.toList = l := rfl
theorem run_edit_write (n : Str) (l s : List Nat) (a : Int) (S : Store) (ha : 0 ≤ a) (hl : l.length ≤ 200) (hs : s.length ≤ 200) : g__law_edited [.str (Tx l), encD (.write n a s), .str (Tx s), .int 200] S =
    .ok (if a ≤ l.length ∧ l.length + s.length ≤ 200 then .str (Tx (l.take a.toNat ++ s ++ l.drop a.toNat)) else .non) S := by
  rw [call__law_edited]
  unfold m__law_edited
  have h1 : l.length ≤ 1000000 := by omega
  have h2 : s.length ≤ 1000000 := by omega
  by_cases h3 : a ≤ l.length
  · have h3' : ¬ (l.length : Int) < a := by omega
    by_cases h4 : l.length + s.length ≤ 200
    · have h4' : ¬ (200 : Int) < l.length + s.length := by omega
      have h5 : a.toNat + s.length ≤ 1000000 := by omega
      have h6 : a.toNat + s.length + (l.length - a.toNat) ≤ 1000000 := by omega
      simp [encD, atI, ixN, mergeL, putL, keyD, h1, h2, h3, h3', h4, h4', cut_to _ ha, cut_from _ ha, h5, h6, lk, List.find?]
    · have h4' : (200 : Int) < l.length + s.length := by omega
      simp [encD, atI, ixN, mergeL, putL, keyD, h1, h2, h3, h3', h4, h4', lk, List.find?]
  · have h3' : (l.length : Int) < a := by omega
    simp [encD, atI, ixN, mergeL, putL, keyD, h1, h2, h3, h3', lk, List.find?]
theorem run_edit_cut (n : Str) (l : List Nat) (a k : Int) (S : Store) (ha : 0 ≤ a) (hk : 0 < k) (hl : l.length ≤ 200) : g__law_edited [.str (Tx l), encD (.cut n a k), .str "", .int 200] S =
    .ok (if a + k ≤ l.length then .str (Tx (l.take a.toNat ++ l.drop (a + k).toNat)) else .non) S := by
  rw [call__law_edited]
  unfold m__law_edited
  rw [emp2]
  have h1 : l.length ≤ 1000000 := by omega
  have hak : 0 ≤ a + k := by omega
  have h4' : ¬ 200 < l.length := by omega
  by_cases h3 : a + k ≤ l.length
  · have h3' : ¬ (l.length : Int) < a + k := by omega
    have h6 : a.toNat + (l.length - (a + k).toNat) ≤ 1000000 := by omega
    have h7 : min a.toNat l.length = a.toNat := by omega
    have h8 : a.toNat ≤ 1000000 := by omega
    simp [encD, atI, ixN, mergeL, putL, keyD, h1, h3, h3', h4', cut_to _ ha, cut_from _ hak, h6, h7, h8, lk, List.find?]
  · have h3' : (l.length : Int) < a + k := by omega
    simp [encD, atI, ixN, mergeL, putL, keyD, h1, h3, h3', lk, List.find?]
theorem run_edit_put (n : Str) (ws : List Str) (w : Str) (a : Int) (S : Store) (ha : 0 ≤ a) (hl : ws.length ≤ 40) : g__law_edited [.tup (ws.map .str), encD (.put n a w), .tup [.str w], .int 40] S =
    .ok (if a ≤ ws.length ∧ ws.length < 40 then .tup ((ws.take a.toNat ++ w :: ws.drop a.toNat).map .str) else .non) S := by
  rw [call__law_edited]
  unfold m__law_edited
  by_cases h3 : a ≤ ws.length
  · have h3' : ¬ (ws.length : Int) < a := by omega
    by_cases h4 : ws.length < 40
    · have h4' : ¬ (40 : Int) < ws.length + 1 := by omega
      have h7 : min a.toNat ws.length = a.toNat := by omega
      have h5 : a.toNat + 1 ≤ 1000000 := by omega
      have h5' : a.toNat ≤ 999999 := by omega
      have h6 : a.toNat + (ws.length - a.toNat + 1) ≤ 1000000 := by omega
      have h6' : a.toNat + (1 + (ws.length - a.toNat)) ≤ 1000000 := by omega
      have h6'' : a.toNat + 1 + (ws.length - a.toNat) ≤ 1000000 := by omega
      simp [encD, atI, ixN, mergeL, putL, keyD, h3, h3', h4, h4', cut_to _ ha, cut_from _ ha, h5, h5', h6, h6', h6'', h7, lk, List.find?, List.map_take, List.map_drop]
    · have h4' : (40 : Int) < ws.length + 1 := by omega
      simp [encD, atI, ixN, mergeL, putL, keyD, h3, h3', h4, h4', lk, List.find?]
  · have h3' : (ws.length : Int) < a := by omega
    simp [encD, atI, ixN, mergeL, putL, keyD, h3, h3', lk, List.find?]
theorem run_edit_take (n : Str) (ws : List Str) (a : Int) (S : Store) (ha : 0 ≤ a) (hl : ws.length ≤ 40) : g__law_edited [.tup (ws.map .str), encD (.take n a), .tup [], .int 40] S =
    .ok (if a < ws.length then .tup ((ws.take a.toNat ++ ws.drop (a + 1).toNat).map .str) else .non) S := by
  rw [call__law_edited]
  unfold m__law_edited
  have hak : 0 ≤ a + 1 := by omega
  have h4' : ¬ 40 < ws.length := by omega
  by_cases h3 : a < ws.length
  · have h3' : ¬ (ws.length : Int) < a + 1 := by omega
    have h7 : min a.toNat ws.length = a.toNat := by omega
    have h5 : a.toNat ≤ 1000000 := by omega
    have h6 : a.toNat + (ws.length - (a + 1).toNat) ≤ 1000000 := by omega
    simp [encD, atI, ixN, mergeL, putL, keyD, h3, h3', h4', cut_to _ ha, cut_from _ hak, h5, h6, h7, lk, List.find?, List.map_take, List.map_drop]
  · have h3' : (ws.length : Int) < a + 1 := by omega
    simp [encD, atI, ixN, mergeL, putL, keyD, h3, h3', lk, List.find?]
theorem cut_one {α : Type} (l : List α) {a : Int} (h : 0 ≤ a) (h2 : a < l.length) : cutL l (some a) (some (a + 1)) = (l.drop a.toNat).take 1 := by
  unfold cutL HT.sIx
  have e1 : ¬ a < 0 := by omega
  have e2 : ¬ a + 1 < 0 := by omega
  simp only [e1, e2, if_false]
  rw [Nat.min_eq_left (by omega), Nat.min_eq_left (by omega)]
  congr 1
  omega
theorem run_edit_move (n : Str) (ws : List Str) (a j : Int) (S : Store) (ha : 0 ≤ a) (hj : 0 ≤ j) (hl : ws.length ≤ 40) : g__law_edited [.tup (ws.map .str), encD (.move n a j), .tup [], .int 40] S =
    .ok (if a < ws.length ∧ j < ws.length then .tup (((ws.take a.toNat ++ ws.drop (a + 1).toNat).take j.toNat ++ (ws.drop a.toNat).take 1 ++ (ws.take a.toNat ++ ws.drop (a + 1).toNat).drop j.toNat).map .str) else .non) S := by
  rw [call__law_edited]
  unfold m__law_edited
  have hak : 0 ≤ a + 1 := by omega
  have h4' : ¬ 40 < ws.length := by omega
  by_cases h3 : a < ws.length
  · have h3' : ¬ (ws.length : Int) < a + 1 := by omega
    have h7 : min a.toNat ws.length = a.toNat := by omega
    have h5 : a.toNat ≤ 1000000 := by omega
    have h6 : a.toNat + (ws.length - (a + 1).toNat) ≤ 1000000 := by omega
    have c1 := cut_one (ws.map D.str) ha (by simpa using h3)
    have h9 : min j.toNat (a.toNat + (ws.length - (a + 1).toNat)) + min 1 (ws.length - a.toNat) ≤ 1000000 := by omega
    have h10 : min j.toNat (a.toNat + (ws.length - (a + 1).toNat)) + (min 1 (ws.length - a.toNat) + (a.toNat + (ws.length - (a + 1).toNat) - j.toNat)) ≤ 1000000 := by omega
    have h11 : min j.toNat (a.toNat + (ws.length - (a + 1).toNat)) + min 1 (ws.length - a.toNat) + (a.toNat + (ws.length - (a + 1).toNat) - j.toNat) ≤ 1000000 := by omega
    by_cases h8 : j < ws.length
    · simp [encD, atI, ixN, mergeL, putL, keyD, h3, h3', h4', cut_to _ ha, cut_from _ hak, cut_to _ hj, cut_from _ hj, h5, h6, h7, h8, h9, h10, h11, lk, List.find?, c1, List.map_take, List.map_drop]
    · simp [encD, atI, ixN, mergeL, putL, keyD, h3, h3', h4', cut_to _ ha, cut_from _ hak, h5, h6, h7, h8, lk, List.find?]
  · have h3' : (ws.length : Int) < a + 1 := by omega
    simp [encD, atI, ixN, mergeL, putL, keyD, h3, h3', lk, List.find?]
end Dee

set_option maxRecDepth 100000
set_option maxHeartbeats 4000000
namespace Dee
open PySem PySem.Spec L2
/-! ### boards -/
abbrev Board := List (Str × Val)
def encB (b : Board) : List (Key × D) := b.map fun p => (.inr p.1, encV p.2)
def getB (b : Board) (n : Str) : Option Val := (b.find? fun p => decide (p.1 = n)).map (·.2)
def delB (b : Board) (n : Str) : Board := b.filter fun p => decide (p.1 ≠ n)
theorem getB_cons (p : Str × Val) (b : Board) (n : Str) : getB (p :: b) n = if p.1 = n then some p.2 else getB b n := by
  unfold getB
  rw [List.find?_cons]
  by_cases h : p.1 = n <;> simp [h]
@[simp] theorem lk_enc (b : Board) (n : Str) : lk (encB b) (.inr n) = (getB b n).map encV := by
  induction b with
  | nil => rfl
  | cons p b ih =>
    rw [getB_cons]
    by_cases h : p.1 = n
    · rw [if_pos h]
      exact lk_pos (by simp [h])
    · rw [if_neg h, ← ih]
      exact lk_neg (by simp [h])
@[simp] theorem drop_enc (b : Board) (n : Str) : dropL (encB b) (.inr n) = encB (delB b n) := by
  unfold dropL encB delB
  rw [List.filter_map]
  congr 1
  refine List.filter_congr fun p _ => ?_
  simp
theorem any_enc (b : Board) (n : Str) : ((encB b).any fun kv => decide (kv.1 = Sum.inr n)) = (getB b n).isSome := by
  induction b with
  | nil => rfl
  | cons p b ih =>
    rw [getB_cons]
    show (decide ((Sum.inr p.1 : Key) = Sum.inr n) || _) = _
    by_cases h : p.1 = n
    · simp [h]
    · rw [if_neg h, ← ih]
      simp [h, encB]
theorem put_enc {b : Board} {n : Str} {v : Val} (h : getB b n = none) : putL (encB b) (.inr n) (encV v) = encB (b ++ [(n, v)]) := by
  unfold putL
  rw [any_enc, h]
  simp [encB]
theorem getB_del (b : Board) (n : Str) : getB (delB b n) n = none := by
  unfold getB delB
  rw [Option.map_eq_none_iff, List.find?_eq_none]
  intro p hp
  have := (List.mem_filter.mp hp).2
  simpa using this
theorem getB_del_ne {b : Board} {n m : Str} (h : m ≠ n) : getB (delB b n) m = getB b m := by
  induction b with
  | nil => rfl
  | cons p b ih =>
    rw [getB_cons]
    unfold delB
    rw [List.filter_cons]
    by_cases hp : p.1 = n
    · have : ¬ p.1 = m := fun z => h (by rw [← z, hp])
      simp only [hp, ne_eq, not_true, decide_false, Bool.false_eq_true, if_false]
      rw [← ih]
      have hm : ¬ n = m := fun z => h z.symm
      rw [if_neg hm]; rfl
    · simp only [hp, ne_eq, not_false_eq_true, decide_true, if_true]
      rw [getB_cons]
      by_cases hm : p.1 = m
      · rw [if_pos hm, if_pos hm]
      · rw [if_neg hm, if_neg hm]; exact ih
theorem lo_encV (k : Nat) (v : Val) : loD k (encV v) = true := by
  cases v with
  | text l => rfl
  | num n => rfl
  | row ws =>
    show (true && (loDs k (ws.map .str) && true)) = true
    have : loDs k (ws.map D.str) = true := by
      induction ws with
      | nil => rfl
      | cons w ws ih => exact ih
    rw [this]; rfl
theorem lo_encB (k : Nat) (b : Board) : loKs k (encB b) = true := by
  induction b with
  | nil => rfl
  | cons p b ih =>
    show (loD k (encV p.2) && loKs k (encB b)) = true
    rw [lo_encV, ih]; rfl
def encOB : Option Board → D
  | some b => .dct (encB b)
  | none => .non
def lawText (l : List Nat) : Deed → Option (List Nat)
  | .write _ a s => if a ≤ l.length ∧ l.length + s.length ≤ 200 then some (l.take a.toNat ++ s ++ l.drop a.toNat) else none
  | .cut _ a k => if a + k ≤ l.length then some (l.take a.toNat ++ l.drop (a + k).toNat) else none
  | _ => none
def lawRow (ws : List Str) : Deed → Option (List Str)
  | .put _ a w => if a ≤ ws.length ∧ ws.length < 40 then some (ws.take a.toNat ++ w :: ws.drop a.toNat) else none
  | .take _ a => if a < ws.length then some (ws.take a.toNat ++ ws.drop (a + 1).toNat) else none
  | .move _ a j => if a < ws.length ∧ j < ws.length then some ((ws.take a.toNat ++ ws.drop (a + 1).toNat).take j.toNat ++ (ws.drop a.toNat).take 1 ++ (ws.take a.toNat ++ ws.drop (a + 1).toNat).drop j.toNat) else none
  | _ => none
def lawNum (k : Int) : Deed → Option Int
  | .set _ x => if absI x ≤ 1000000000 then some x else none
  | .add _ x => if absI (k + x) ≤ 1000000000 then some (k + x) else none
  | _ => none
def lawVal (v : Val) (d : Deed) : Option Val := match v with
  | .text l => (lawText l d).map .text
  | .row ws => (lawRow ws d).map .row
  | .num k => (lawNum k d).map .num
def lawDone (b : Board) (d : Deed) : Option Board := match d with
  | .say _ => some b
  | .whole n v => if getB b n = none ∧ b.length + 1 ≤ 20 then some (b ++ [(n, v)]) else none
  | .drop n => if (getB b n).isSome then some (delB b n) else none
  | .rename n m => match getB b n with
    | some v => if getB b m = none then some (delB b n ++ [(m, v)]) else none
    | none => none
  | d => match getB b (nameD d) with
    | some v => (lawVal v d).map fun v' => delB b (nameD d) ++ [(nameD d, v')]
    | none => none
theorem set_len (S : Store) (c c' : Cell) : (S ++ [c]).set S.length c' = S ++ [c'] := by
  rw [List.set_append_right _ _ (Nat.le_refl _)]; simp
theorem frz_found (S : Store) (kvs : List (Key × D)) : frzOut (.ok (.loc S.length) (S ++ [.dct kvs])) = .ok (.dct kvs) (S ++ [.dead]) := by
  show (match (S ++ [Cell.dct kvs])[S.length]? with
    | some (.lst ds) => Out.ok (D.lst ds) ((S ++ [Cell.dct kvs]).set S.length .dead)
    | some (.dct ds) => Out.ok (D.dct ds) ((S ++ [Cell.dct kvs]).set S.length .dead)
    | _ => Out.ok (D.loc S.length) (S ++ [Cell.dct kvs])) = _
  rw [List.getElem?_concat_length]
  show Out.ok (D.dct kvs) ((S ++ [Cell.dct kvs]).set S.length .dead) = _
  rw [set_len]
theorem gc_board (S : Store) (b : Board) : gcOut S (.ok (.dct (encB b)) (S ++ [.dead])) = .ok (.dct (encB b)) S := gc_app (lo_encB _ _)
theorem gc_none (S : Store) (c : Cell) : gcOut S (.ok .non (S ++ [c])) = .ok .non S := gc_app rfl
theorem encB_len (b : Board) : (encB b).length = b.length := by simp [encB]
def smallB (b : Board) : Prop := b.length ≤ 1000 ∧ ∀ n v, getB b n = some v → match v with
  | .text l => l.length ≤ 200
  | .row ws => ws.length ≤ 40
  | .num _ => True
theorem del_len (b : Board) (n : Str) : (delB b n).length ≤ b.length := List.length_filter_le _ _
theorem okn (S : Store) (c : Cell) : (S ++ [c])[S.length]? = some c := List.getElem?_concat_length
theorem encV_ix2 (v : Val) : ∃ a b, encV v = .tup [.str a, b] := by cases v <;> exact ⟨_, _, rfl⟩
theorem run_done_whole (b : Board) (n : Str) (v : Val) (S : Store) (hb : smallB b) : g__law_done [.dct (encB b), encD (.whole n v)] S = .ok (encOB (lawDone b (.whole n v))) S := by
  rw [call__law_done]
  unfold m__law_done
  have h1 : b.length < 1000000 := by have := hb.1; omega
  cases hg : getB b n with
  | some w =>
    simp [encD, atI, ixN, cellK, lawDone, hg, encOB, okn, set_len, encB_len, h1, keyD, gc_none]
  | none =>
    have e1 : lenD [.loc S.length] (S ++ [.dct (encB (b ++ [(n, v)]))]) = some (.int ((b.length + 1 : Nat) : Int), S ++ [.dct (encB (b ++ [(n, v)]))]) := by
      simp [lenD, asQ, asL, asK, okn, encB_len]
    by_cases h2 : b.length < 20
    · have h2' : (b.length : Int) + 1 ≤ 20 := by omega
      have h3 : b.length ≤ 19 := by omega
      simp [encD, h3, atI, ixN, cellK, lawDone, hg, encOB, okn, set_len, encB_len, h1, h2, h2', keyD, put_enc hg, frz_found, gc_board, e1]
    · have h2' : ¬ (b.length : Int) + 1 ≤ 20 := by omega
      have h3 : ¬ b.length ≤ 19 := by omega
      simp [encD, h3, atI, ixN, cellK, lawDone, hg, encOB, okn, set_len, encB_len, h1, h2, h2', keyD, put_enc hg, gc_none, e1]
theorem run_done_drop (b : Board) (n : Str) (S : Store) (hb : smallB b) : g__law_done [.dct (encB b), encD (.drop n)] S = .ok (encOB (lawDone b (.drop n))) S := by
  rw [call__law_done]
  unfold m__law_done
  cases hg : getB b n with
  | none => simp [encD, lawDone, hg, encOB, gc_none]
  | some w =>
    obtain ⟨x, y, e⟩ := encV_ix2 w
    simp [encD, lawDone, hg, encOB, cellK, okn, set_len, keyD, frz_found, gc_board, dpopD, isK, asK, e]
theorem run_done_rename (b : Board) (n m : Str) (S : Store) (hb : smallB b) : g__law_done [.dct (encB b), encD (.rename n m)] S = .ok (encOB (lawDone b (.rename n m))) S := by
  rw [call__law_done]
  unfold m__law_done
  have h1 : (delB b n).length < 1000000 := by have := hb.1; have := del_len b n; omega
  cases hg : getB b n with
  | none => simp [encD, lawDone, hg, encOB, gc_none]
  | some w =>
    obtain ⟨x, y, e⟩ := encV_ix2 w
    by_cases hm : m = n
    · subst hm
      simp [encD, atI, ixN, lawDone, hg, encOB, cellK, okn, set_len, keyD, gc_none, dpopD, isK, asK, e, encB_len, h1]
    · cases hg2 : getB b m with
      | some u => simp [encD, atI, ixN, lawDone, hg, hg2, encOB, cellK, okn, set_len, keyD, gc_none, dpopD, isK, asK, e, encB_len, h1]
      | none =>
        have h3 : getB (delB b n) m = none := by rw [getB_del_ne hm, hg2]
        have h4 := put_enc (v := w) h3
        rw [e] at h4
        simp [encD, atI, ixN, lawDone, hg, hg2, encOB, cellK, okn, set_len, keyD, frz_found, gc_board, dpopD, isK, asK, e, encB_len, h1, h4]
theorem run_done_write (b : Board) (n : Str) (a : Int) (s : List Nat) (S : Store) (hb : smallB b) (ha : 0 ≤ a) (hs : s.length ≤ 200) : g__law_done [.dct (encB b), encD (.write n a s)] S = .ok (encOB (lawDone b (.write n a s))) S := by
  rw [call__law_done]
  unfold m__law_done
  have h1 : (delB b n).length < 1000000 := by have := hb.1; have := del_len b n; omega
  cases hg : getB b n with
  | none => simp [encD, lawDone, nameD, hg, encOB, gc_none]
  | some w =>
    have h3 := getB_del b n
    cases w with
    | text l =>
      have hl : l.length ≤ 200 := hb.2 n _ hg
      have h4 := put_enc (v := .text (l.take a.toNat ++ s ++ l.drop a.toNat)) h3
      simp only [encV] at h4
      have h5 := run_edit_write n l s a (S ++ [.dct (encB (delB b n))]) ha hl hs
      simp only [encD] at h5
      by_cases hc : a ≤ l.length ∧ l.length + s.length ≤ 200
      · rw [if_pos hc] at h5
        simp [encD, atI, ixN, lawDone, nameD, lawVal, lawText, lawRow, lawNum, hg, encOB, cellK, okn, set_len, keyD, dpopD, isK, asK, encV, encB_len, h1, h5, hc, frz_found, gc_board] at h4 ⊢
        simp [h4, frz_found, gc_board]
      · rw [if_neg hc] at h5
        simp [encD, atI, ixN, lawDone, nameD, lawVal, lawText, lawRow, lawNum, hg, encOB, cellK, okn, set_len, keyD, dpopD, isK, asK, encV, encB_len, h1, h5, hc, gc_none]
    | row ws =>
      have hl : ws.length ≤ 40 := hb.2 n _ hg
      simp [encD, atI, ixN, lawDone, nameD, lawVal, lawText, lawRow, lawNum, hg, encOB, cellK, okn, set_len, keyD, dpopD, isK, asK, encV, encB_len, h1, gc_none]
    | num k =>
      simp [encD, atI, ixN, lawDone, nameD, lawVal, lawText, lawRow, lawNum, hg, encOB, cellK, okn, set_len, keyD, dpopD, isK, asK, encV, encB_len, h1, gc_none]
theorem run_done_cut (b : Board) (n : Str) (a c : Int) (S : Store) (hb : smallB b) (ha : 0 ≤ a) (hc0 : 0 < c) : g__law_done [.dct (encB b), encD (.cut n a c)] S = .ok (encOB (lawDone b (.cut n a c))) S := by
  rw [call__law_done]
  unfold m__law_done
  have h1 : (delB b n).length < 1000000 := by have := hb.1; have := del_len b n; omega
  cases hg : getB b n with
  | none => simp [encD, lawDone, nameD, hg, encOB, gc_none]
  | some w =>
    have h3 := getB_del b n
    cases w with
    | text l =>
      have hl : l.length ≤ 200 := hb.2 n _ hg
      have h4 := put_enc (v := .text (l.take a.toNat ++ l.drop (a + c).toNat)) h3
      simp only [encV] at h4
      have h5 := run_edit_cut n l a c (S ++ [.dct (encB (delB b n))]) ha hc0 hl
      simp only [encD] at h5
      by_cases hc : a + c ≤ l.length
      · rw [if_pos hc] at h5
        simp [encD, atI, ixN, lawDone, nameD, lawVal, lawText, lawRow, lawNum, hg, encOB, cellK, okn, set_len, keyD, dpopD, isK, asK, encV, encB_len, h1, h5, hc, frz_found, gc_board] at h4 ⊢
        simp [h4, frz_found, gc_board]
      · rw [if_neg hc] at h5
        simp [encD, atI, ixN, lawDone, nameD, lawVal, lawText, lawRow, lawNum, hg, encOB, cellK, okn, set_len, keyD, dpopD, isK, asK, encV, encB_len, h1, h5, hc, gc_none]
    | row ws =>
      have hl : ws.length ≤ 40 := hb.2 n _ hg
      simp [encD, atI, ixN, lawDone, nameD, lawVal, lawText, lawRow, lawNum, hg, encOB, cellK, okn, set_len, keyD, dpopD, isK, asK, encV, encB_len, h1, gc_none]
    | num k =>
      simp [encD, atI, ixN, lawDone, nameD, lawVal, lawText, lawRow, lawNum, hg, encOB, cellK, okn, set_len, keyD, dpopD, isK, asK, encV, encB_len, h1, gc_none]
theorem run_done_put (b : Board) (n : Str) (a : Int) (w : Str) (S : Store) (hb : smallB b) (ha : 0 ≤ a) : g__law_done [.dct (encB b), encD (.put n a w)] S = .ok (encOB (lawDone b (.put n a w))) S := by
  rw [call__law_done]
  unfold m__law_done
  have h1 : (delB b n).length < 1000000 := by have := hb.1; have := del_len b n; omega
  cases hg : getB b n with
  | none => simp [encD, lawDone, nameD, hg, encOB, gc_none]
  | some w =>
    have h3 := getB_del b n
    cases w with
    | text l =>
      have hl : l.length ≤ 200 := hb.2 n _ hg
      simp [encD, atI, ixN, lawDone, nameD, lawVal, lawText, lawRow, lawNum, hg, encOB, cellK, okn, set_len, keyD, dpopD, isK, asK, encV, encB_len, h1, gc_none]
    | row ws =>
      have hl : ws.length ≤ 40 := hb.2 n _ hg
      have h4 := put_enc (v := .row (ws.take a.toNat ++ w :: ws.drop a.toNat)) h3
      simp only [encV] at h4
      have h5 := run_edit_put n ws w a (S ++ [.dct (encB (delB b n))]) ha hl
      simp only [encD] at h5
      by_cases hc : a ≤ ws.length ∧ ws.length < 40
      · rw [if_pos hc] at h5
        simp [encD, atI, ixN, lawDone, nameD, lawVal, lawText, lawRow, lawNum, hg, encOB, cellK, okn, set_len, keyD, dpopD, isK, asK, encV, encB_len, h1, h5, hc, frz_found, gc_board] at h4 ⊢
        simp [h4, frz_found, gc_board]
      · rw [if_neg hc] at h5
        simp [encD, atI, ixN, lawDone, nameD, lawVal, lawText, lawRow, lawNum, hg, encOB, cellK, okn, set_len, keyD, dpopD, isK, asK, encV, encB_len, h1, h5, hc, gc_none]
    | num k =>
      simp [encD, atI, ixN, lawDone, nameD, lawVal, lawText, lawRow, lawNum, hg, encOB, cellK, okn, set_len, keyD, dpopD, isK, asK, encV, encB_len, h1, gc_none]
theorem run_done_take (b : Board) (n : Str) (a : Int) (S : Store) (hb : smallB b) (ha : 0 ≤ a) : g__law_done [.dct (encB b), encD (.take n a)] S = .ok (encOB (lawDone b (.take n a))) S := by
  rw [call__law_done]
  unfold m__law_done
  have h1 : (delB b n).length < 1000000 := by have := hb.1; have := del_len b n; omega
  cases hg : getB b n with
  | none => simp [encD, lawDone, nameD, hg, encOB, gc_none]
  | some w =>
    have h3 := getB_del b n
    cases w with
    | text l =>
      have hl : l.length ≤ 200 := hb.2 n _ hg
      simp [encD, atI, ixN, lawDone, nameD, lawVal, lawText, lawRow, lawNum, hg, encOB, cellK, okn, set_len, keyD, dpopD, isK, asK, encV, encB_len, h1, gc_none]
    | row ws =>
      have hl : ws.length ≤ 40 := hb.2 n _ hg
      have h4 := put_enc (v := .row (ws.take a.toNat ++ ws.drop (a + 1).toNat)) h3
      simp only [encV] at h4
      have h5 := run_edit_take n ws a (S ++ [.dct (encB (delB b n))]) ha hl
      simp only [encD] at h5
      by_cases hc : a < ws.length
      · rw [if_pos hc] at h5
        simp [encD, atI, ixN, lawDone, nameD, lawVal, lawText, lawRow, lawNum, hg, encOB, cellK, okn, set_len, keyD, dpopD, isK, asK, encV, encB_len, h1, h5, hc, frz_found, gc_board] at h4 ⊢
        simp [h4, frz_found, gc_board]
      · rw [if_neg hc] at h5
        simp [encD, atI, ixN, lawDone, nameD, lawVal, lawText, lawRow, lawNum, hg, encOB, cellK, okn, set_len, keyD, dpopD, isK, asK, encV, encB_len, h1, h5, hc, gc_none]
    | num k =>
      simp [encD, atI, ixN, lawDone, nameD, lawVal, lawText, lawRow, lawNum, hg, encOB, cellK, okn, set_len, keyD, dpopD, isK, asK, encV, encB_len, h1, gc_none]
theorem run_done_move (b : Board) (n : Str) (a j : Int) (S : Store) (hb : smallB b) (ha : 0 ≤ a) (hj : 0 ≤ j) : g__law_done [.dct (encB b), encD (.move n a j)] S = .ok (encOB (lawDone b (.move n a j))) S := by
  rw [call__law_done]
  unfold m__law_done
  have h1 : (delB b n).length < 1000000 := by have := hb.1; have := del_len b n; omega
  cases hg : getB b n with
  | none => simp [encD, lawDone, nameD, hg, encOB, gc_none]
  | some w =>
    have h3 := getB_del b n
    cases w with
    | text l =>
      have hl : l.length ≤ 200 := hb.2 n _ hg
      simp [encD, atI, ixN, lawDone, nameD, lawVal, lawText, lawRow, lawNum, hg, encOB, cellK, okn, set_len, keyD, dpopD, isK, asK, encV, encB_len, h1, gc_none]
    | row ws =>
      have hl : ws.length ≤ 40 := hb.2 n _ hg
      have h4 := put_enc (v := .row ((ws.take a.toNat ++ ws.drop (a + 1).toNat).take j.toNat ++ (ws.drop a.toNat).take 1 ++ (ws.take a.toNat ++ ws.drop (a + 1).toNat).drop j.toNat)) h3
      simp only [encV] at h4
      have h5 := run_edit_move n ws a j (S ++ [.dct (encB (delB b n))]) ha hj hl
      simp only [encD] at h5
      by_cases hc : a < ws.length ∧ j < ws.length
      · rw [if_pos hc] at h5
        simp [encD, atI, ixN, lawDone, nameD, lawVal, lawText, lawRow, lawNum, hg, encOB, cellK, okn, set_len, keyD, dpopD, isK, asK, encV, encB_len, h1, h5, hc, frz_found, gc_board] at h4 ⊢
        simp [h4, frz_found, gc_board]
      · rw [if_neg hc] at h5
        simp [encD, atI, ixN, lawDone, nameD, lawVal, lawText, lawRow, lawNum, hg, encOB, cellK, okn, set_len, keyD, dpopD, isK, asK, encV, encB_len, h1, h5, hc, gc_none]
    | num k =>
      simp [encD, atI, ixN, lawDone, nameD, lawVal, lawText, lawRow, lawNum, hg, encOB, cellK, okn, set_len, keyD, dpopD, isK, asK, encV, encB_len, h1, gc_none]
theorem run_done_set (b : Board) (n : Str) (x : Int) (S : Store) (hb : smallB b) : g__law_done [.dct (encB b), encD (.set n x)] S = .ok (encOB (lawDone b (.set n x))) S := by
  rw [call__law_done]
  unfold m__law_done
  have h1 : (delB b n).length < 1000000 := by have := hb.1; have := del_len b n; omega
  cases hg : getB b n with
  | none => simp [encD, lawDone, nameD, hg, encOB, gc_none]
  | some w =>
    have h3 := getB_del b n
    cases w with
    | text l =>
      have hl : l.length ≤ 200 := hb.2 n _ hg
      simp [encD, atI, ixN, lawDone, nameD, lawVal, lawText, lawRow, lawNum, hg, encOB, cellK, okn, set_len, keyD, dpopD, isK, asK, encV, encB_len, h1, gc_none]
    | row ws =>
      have hl : ws.length ≤ 40 := hb.2 n _ hg
      simp [encD, atI, ixN, lawDone, nameD, lawVal, lawText, lawRow, lawNum, hg, encOB, cellK, okn, set_len, keyD, dpopD, isK, asK, encV, encB_len, h1, gc_none]
    | num k =>
      have h4 := put_enc (v := .num (x)) h3
      simp only [encV] at h4
      by_cases hc : absI (x) ≤ 1000000000
      · have hc' : (if x < 0 then -(x) else x) ≤ 1000000000 := hc
        simp [encD, atI, ixN, lawDone, nameD, lawVal, lawText, lawRow, lawNum, hg, encOB, cellK, okn, set_len, keyD, dpopD, isK, asK, encV, encB_len, h1, hc, hc', frz_found, gc_board, h4]
      · have hc' : ¬ (if x < 0 then -(x) else x) ≤ 1000000000 := hc
        simp [encD, atI, ixN, lawDone, nameD, lawVal, lawText, lawRow, lawNum, hg, encOB, cellK, okn, set_len, keyD, dpopD, isK, asK, encV, encB_len, h1, hc, hc', gc_none]
theorem run_done_add (b : Board) (n : Str) (x : Int) (S : Store) (hb : smallB b) : g__law_done [.dct (encB b), encD (.add n x)] S = .ok (encOB (lawDone b (.add n x))) S := by
  rw [call__law_done]
  unfold m__law_done
  have h1 : (delB b n).length < 1000000 := by have := hb.1; have := del_len b n; omega
  cases hg : getB b n with
  | none => simp [encD, lawDone, nameD, hg, encOB, gc_none]
  | some w =>
    have h3 := getB_del b n
    cases w with
    | text l =>
      have hl : l.length ≤ 200 := hb.2 n _ hg
      simp [encD, atI, ixN, lawDone, nameD, lawVal, lawText, lawRow, lawNum, hg, encOB, cellK, okn, set_len, keyD, dpopD, isK, asK, encV, encB_len, h1, gc_none]
    | row ws =>
      have hl : ws.length ≤ 40 := hb.2 n _ hg
      simp [encD, atI, ixN, lawDone, nameD, lawVal, lawText, lawRow, lawNum, hg, encOB, cellK, okn, set_len, keyD, dpopD, isK, asK, encV, encB_len, h1, gc_none]
    | num k =>
      have h4 := put_enc (v := .num (k + x)) h3
      simp only [encV] at h4
      by_cases hc : absI (k + x) ≤ 1000000000
      · have hc' : (if k + x < 0 then -(k + x) else k + x) ≤ 1000000000 := hc
        simp [encD, atI, ixN, lawDone, nameD, lawVal, lawText, lawRow, lawNum, hg, encOB, cellK, okn, set_len, keyD, dpopD, isK, asK, encV, encB_len, h1, hc, hc', frz_found, gc_board, h4]
      · have hc' : ¬ (if k + x < 0 then -(k + x) else k + x) ≤ 1000000000 := hc
        simp [encD, atI, ixN, lawDone, nameD, lawVal, lawText, lawRow, lawNum, hg, encOB, cellK, okn, set_len, keyD, dpopD, isK, asK, encV, encB_len, h1, hc, hc', gc_none]
theorem run_done (b : Board) (d : Deed) (S : Store) (hb : smallB b) (hd : okD d = true) (hs : ∀ s, d ≠ .say s) : g__law_done [.dct (encB b), encD d] S = .ok (encOB (lawDone b d)) S := by
  cases d with
  | say s => exact absurd rfl (hs s)
  | whole n v => exact run_done_whole b n v S hb
  | drop n => exact run_done_drop b n S hb
  | rename n m => exact run_done_rename b n m S hb
  | write n a s =>
    simp only [okD, Bool.and_eq_true, decide_eq_true_eq] at hd
    exact run_done_write b n a s S hb hd.2.1 (textL_len hd.2.2.2)
  | cut n a k =>
    simp only [okD, Bool.and_eq_true, decide_eq_true_eq] at hd
    exact run_done_cut b n a k S hb hd.2.1 hd.2.2
  | put n a w =>
    simp only [okD, Bool.and_eq_true, decide_eq_true_eq] at hd
    exact run_done_put b n a w S hb hd.2.1
  | take n a =>
    simp only [okD, Bool.and_eq_true, decide_eq_true_eq] at hd
    exact run_done_take b n a S hb hd.2
  | move n i j =>
    simp only [okD, Bool.and_eq_true, decide_eq_true_eq] at hd
    exact run_done_move b n i j S hb hd.2.1 hd.2.2
  | set n x => exact run_done_set b n x S hb
  | add n x => exact run_done_add b n x S hb
end Dee

set_option maxRecDepth 100000
set_option maxHeartbeats 4000000
namespace Dee
open PySem PySem.Spec L2
@[simp] theorem eq_pair (S : Store) (a b c d : Str) : eqTop S (.tup [.str a, .str b]) (.tup [.str c, .str d]) = some (decide (a = c) && decide (b = d)) := by
  show (some ((decide (a = c) && (decide (b = d) && true)) && decide (2 = 2))) = _
  simp
/-! ### the plain law: what one deed for two makes -/
theorem tdd {α : Type} (l : List α) (a b : Nat) : (l.drop a).drop b = l.drop (a + b) := List.drop_drop ..
theorem join_write (t s u : List Nat) {p q : Int} (hp : 0 ≤ p) (h1 : p ≤ q) (h2 : q ≤ p + s.length) (h3 : p ≤ t.length) :
    (t.take p.toNat ++ s ++ t.drop p.toNat).take q.toNat ++ u ++ (t.take p.toNat ++ s ++ t.drop p.toNat).drop q.toNat = t.take p.toNat ++ (s.take (q - p).toNat ++ u ++ s.drop (q - p).toNat) ++ t.drop p.toNat := by
  have lp : (t.take p.toNat).length = p.toNat := by rw [List.length_take]; omega
  have e : q.toNat = (t.take p.toNat).length + (q - p).toNat := by rw [lp]; omega
  have hq : (q - p).toNat ≤ s.length := by omega
  rw [e, List.append_assoc (t.take p.toNat) s, List.take_length_add_append, List.drop_length_add_append, List.take_append_of_le_length hq, List.drop_append_of_le_length hq]
  simp [List.append_assoc]
theorem join_cut (t : List Nat) {p k q j : Int} (hp : 0 ≤ p) (hq : 0 ≤ q) (hk : 0 < k) (hj : 0 < j) (h1 : q ≤ p) (h2 : p ≤ q + j) (h3 : p + k ≤ t.length) :
    (t.take p.toNat ++ t.drop (p + k).toNat).take q.toNat ++ (t.take p.toNat ++ t.drop (p + k).toNat).drop (q + j).toNat = t.take q.toNat ++ t.drop (q + (k + j)).toNat := by
  have lp : (t.take p.toNat).length = p.toNat := by rw [List.length_take]; omega
  rw [List.take_append_of_le_length (by rw [lp]; omega), List.take_take, Nat.min_eq_left (by omega), List.drop_append, List.drop_of_length_le (by rw [lp]; omega), lp, List.drop_drop, List.nil_append]
  congr 2
  omega
theorem move_at {α : Type} (l : List α) (x : α) {j k : Nat} (hj : j ≤ l.length) :
    (l.take j ++ [x] ++ l.drop j).take j ++ (l.take j ++ [x] ++ l.drop j).drop (j + 1) = l ∧ ((l.take j ++ [x] ++ l.drop j).drop j).take 1 = [x] := by
  have lj : (l.take j).length = j := by rw [List.length_take]; omega
  have e : l.take j ++ [x] ++ l.drop j = l.take j ++ (x :: l.drop j) := by simp
  rw [e]
  refine ⟨?_, ?_⟩
  · rw [List.take_append_of_le_length (by omega), List.take_take, Nat.min_self, List.drop_append, lj]
    have : j + 1 - j = 1 := by omega
    rw [this, List.drop_of_length_le (by omega)]
    simp
  · rw [List.drop_append, lj, List.drop_of_length_le (by omega)]
    simp
/-- one deed of two: it makes of a board what both make -/
theorem del_back (b : Board) (n : Str) (v : Val) : delB (delB b n ++ [(n, v)]) n = delB b n := by
  unfold delB
  rw [List.filter_append, List.filter_filter]
  simp
theorem get_back (b : Board) (n : Str) (v : Val) : getB (delB b n ++ [(n, v)]) n = some v := by
  have h := getB_del b n
  unfold getB at h ⊢
  rw [Option.map_eq_none_iff] at h
  rw [List.find?_append, h]
  simp
theorem lawRow_move {ws : List Str} {n : Str} {i j k : Int} (hi : 0 ≤ i) (hj : 0 ≤ j) (hk : 0 ≤ k) {ws1 ws2 : List Str} (h1 : lawRow ws (.move n i j) = some ws1) (h2 : lawRow ws1 (.move n j k) = some ws2) : lawRow ws (.move n i k) = some ws2 := by
  simp only [lawRow] at h1 h2 ⊢
  split at h1
  · rename_i hc
    cases h1
    split at h2
    · rename_i hd
      cases h2
      have li : i.toNat < ws.length := by omega
      have one : (ws.drop i.toNat).take 1 = [ws[i.toNat]] := by
        rw [List.drop_eq_getElem_cons li]; rfl
      have left_len : (ws.take i.toNat ++ ws.drop (i + 1).toNat).length = ws.length - 1 := by
        rw [List.length_append, List.length_take, List.length_drop]; omega
      rw [one] at hd ⊢
      have hjl : j.toNat ≤ (ws.take i.toNat ++ ws.drop (i + 1).toNat).length := by rw [left_len]; omega
      obtain ⟨m1, m2⟩ := move_at (k := 0) (ws.take i.toNat ++ ws.drop (i + 1).toNat) ws[i.toNat] hjl
      have ej : (j + 1).toNat = j.toNat + 1 := by omega
      have tot : ((ws.take i.toNat ++ ws.drop (i + 1).toNat).take j.toNat ++ [ws[i.toNat]] ++ (ws.take i.toNat ++ ws.drop (i + 1).toNat).drop j.toNat).length = ws.length := by
        rw [List.length_append, List.length_append, List.length_take, List.length_drop, left_len, List.length_singleton]; omega
      rw [ej, m1, m2, if_pos ⟨hc.1, by rw [tot] at hd; exact hd.2⟩]
    · cases h2
  · cases h1
theorem lawText_write {l l1 l2 : List Nat} {n : Str} {p q : Int} {s u : List Nat} (hp : 0 ≤ p) (h1 : p ≤ q) (h2 : q ≤ p + s.length) (e1 : lawText l (.write n p s) = some l1) (e2 : lawText l1 (.write n q u) = some l2) : lawText l (.write n p (s.take (q - p).toNat ++ u ++ s.drop (q - p).toNat)) = some l2 := by
  simp only [lawText] at e1 e2 ⊢
  split at e1
  · rename_i hc
    cases e1
    split at e2
    · rename_i hd
      cases e2
      have hl : (l.take p.toNat ++ s ++ l.drop p.toNat).length = l.length + s.length := by
        rw [List.length_append, List.length_append, List.length_take, List.length_drop]; omega
      rw [hl] at hd
      have hm : (s.take (q - p).toNat ++ u ++ s.drop (q - p).toNat).length = s.length + u.length := by
        rw [List.length_append, List.length_append, List.length_take, List.length_drop]; omega
      rw [if_pos ⟨hc.1, by rw [hm]; omega⟩, join_write l s u hp h1 h2 hc.1]
    · cases e2
  · cases e1
theorem lawText_cut {l l1 l2 : List Nat} {n : Str} {p k q j : Int} (hp : 0 ≤ p) (hk : 0 < k) (hq : 0 ≤ q) (hj : 0 < j) (h1 : q ≤ p) (h2 : p ≤ q + j) (e1 : lawText l (.cut n p k) = some l1) (e2 : lawText l1 (.cut n q j) = some l2) : lawText l (.cut n q (k + j)) = some l2 := by
  simp only [lawText] at e1 e2 ⊢
  split at e1
  · rename_i hc
    cases e1
    split at e2
    · rename_i hd
      cases e2
      have hl : ((l.take p.toNat ++ l.drop (p + k).toNat).length : Int) = l.length - k := by
        rw [List.length_append, List.length_take, List.length_drop]; omega
      rw [hl] at hd
      rw [if_pos (by omega), join_cut l hp hq hk hj h1 h2 hc]
    · cases e2
  · cases e1
/-- a deed on what stands by a name, done twice -/
theorem done_twice {b b1 b2 : Board} {n : Str} {x y z : Deed} (gx : lawDone b x = match getB b n with
    | some v => (lawVal v x).map fun v' => delB b n ++ [(n, v')]
    | none => none) (gy : ∀ b, lawDone b y = match getB b n with
    | some v => (lawVal v y).map fun v' => delB b n ++ [(n, v')]
    | none => none) (gz : lawDone b z = match getB b n with
    | some v => (lawVal v z).map fun v' => delB b n ++ [(n, v')]
    | none => none) (hv : ∀ v v1 v2, lawVal v x = some v1 → lawVal v1 y = some v2 → lawVal v z = some v2) (h1 : lawDone b x = some b1) (h2 : lawDone b1 y = some b2) : lawDone b z = some b2 := by
  rw [gx] at h1
  rw [gy] at h2
  rw [gz]
  cases hg : getB b n with
  | none => rw [hg] at h1; cases h1
  | some v =>
    rw [hg] at h1
    dsimp only at h1
    cases hx : lawVal v x with
    | none => rw [hx] at h1; cases h1
    | some v1 =>
      rw [hx] at h1
      cases h1
      rw [get_back] at h2
      dsimp only at h2
      cases hy : lawVal v1 y with
      | none => rw [hy] at h2; cases h2
      | some v2 =>
        rw [hy] at h2
        cases h2
        rw [del_back]
        dsimp only
        rw [hv v v1 v2 hx hy]; rfl
theorem joined_does {b b1 b2 : Board} {x y z : Deed} (ox : okD x = true) (oy : okD y = true) (hj : joinD x y = some z) (h1 : lawDone b x = some b1) (h2 : lawDone b1 y = some b2) : lawDone b z = some b2 := by
  cases x <;> cases y <;> simp only [joinD] at hj <;> try (cases hj; done)
  · rename_i n p s m q u
    split at hj
    · rename_i hc
      cases hj
      obtain ⟨rfl, c1, c2, _⟩ := hc
      simp only [okD, Bool.and_eq_true, decide_eq_true_eq] at ox
      refine done_twice (n := n) rfl (fun _ => rfl) rfl (fun v v1 v2 e1 e2 => ?_) h1 h2
      cases v with
      | text l =>
        obtain ⟨l1, f1, rfl⟩ := Option.map_eq_some_iff.mp e1
        obtain ⟨l2, f2, rfl⟩ := Option.map_eq_some_iff.mp e2
        exact Option.map_eq_some_iff.mpr ⟨l2, lawText_write ox.2.1 c1 c2 f1 f2, rfl⟩
      | row ws => cases e1
      | num k => cases e1
    · cases hj
  · rename_i n p k m q j
    split at hj
    · rename_i hc
      cases hj
      obtain ⟨rfl, c1, c2⟩ := hc
      simp only [okD, Bool.and_eq_true, decide_eq_true_eq] at ox oy
      refine done_twice (n := n) rfl (fun _ => rfl) rfl (fun v v1 v2 e1 e2 => ?_) h1 h2
      cases v with
      | text l =>
        obtain ⟨l1, f1, rfl⟩ := Option.map_eq_some_iff.mp e1
        obtain ⟨l2, f2, rfl⟩ := Option.map_eq_some_iff.mp e2
        exact Option.map_eq_some_iff.mpr ⟨l2, lawText_cut ox.2.1 ox.2.2 oy.2.1 oy.2.2 c1 c2 f1 f2, rfl⟩
      | row ws => cases e1
      | num k => cases e1
    · cases hj
  · rename_i n i j m i' j'
    split at hj
    · rename_i hc
      cases hj
      obtain ⟨rfl, rfl⟩ := hc
      simp only [okD, Bool.and_eq_true, decide_eq_true_eq] at ox oy
      refine done_twice (n := n) rfl (fun _ => rfl) rfl (fun v v1 v2 e1 e2 => ?_) h1 h2
      cases v with
      | text l => cases e1
      | row ws =>
        obtain ⟨l1, f1, rfl⟩ := Option.map_eq_some_iff.mp e1
        obtain ⟨l2, f2, rfl⟩ := Option.map_eq_some_iff.mp e2
        exact Option.map_eq_some_iff.mpr ⟨l2, lawRow_move ox.2.1 ox.2.2 oy.2.2 f1 f2, rfl⟩
      | num k => cases e1
    · cases hj
  · rename_i n x m y
    split at hj
    · rename_i hc
      cases hj
      subst hc
      refine done_twice (n := n) rfl (fun _ => rfl) rfl (fun v v1 v2 e1 e2 => ?_) h1 h2
      cases v with
      | text l => cases e1
      | row ws => cases e1
      | num k =>
        obtain ⟨l1, f1, rfl⟩ := Option.map_eq_some_iff.mp e1
        obtain ⟨l2, f2, rfl⟩ := Option.map_eq_some_iff.mp e2
        exact Option.map_eq_some_iff.mpr ⟨l2, f2, rfl⟩
    · cases hj
  · rename_i n x m y
    split at hj
    · rename_i hc
      cases hj
      obtain ⟨rfl, c1⟩ := hc
      refine done_twice (n := n) rfl (fun _ => rfl) rfl (fun v v1 v2 e1 e2 => ?_) h1 h2
      cases v with
      | text l => cases e1
      | row ws => cases e1
      | num k =>
        obtain ⟨l1, f1, rfl⟩ := Option.map_eq_some_iff.mp e1
        obtain ⟨l2, f2, rfl⟩ := Option.map_eq_some_iff.mp e2
        refine Option.map_eq_some_iff.mpr ⟨l2, ?_, rfl⟩
        simp only [lawNum] at f1 f2 ⊢
        split at f1
        · cases f1
          rw [Int.add_assoc] at f2
          exact f2
        · cases f1
    · cases hj
end Dee

set_option maxRecDepth 100000
set_option maxHeartbeats 4000000
namespace Dee
open PySem PySem.Spec L2
/-! ### boards that are boards -/
def okB (b : Board) : Prop := (∀ p ∈ b, wordS p.1 = true ∧ okV p.2 = true) ∧ b.length ≤ 20 ∧ (b.map (·.1)).Nodup
theorem wordS_len {s : Str} (h : wordS s = true) : s.length ≤ 8 := by
  unfold wordS wordL at h
  rw [Bool.and_eq_true, Bool.and_eq_true, decide_eq_true_eq, decide_eq_true_eq] at h
  simpa [Str.length] using h.1.2
theorem okV_fit {v : Val} (h : okV v = true) : fitV v := by
  cases v with
  | text l => have := textL_len h; show l.length ≤ 1000000; omega
  | row ws =>
    simp only [okV, Bool.and_eq_true, decide_eq_true_eq, List.all_eq_true] at h
    exact ⟨by omega, fun w hw => by have := wordS_len (h.2 w hw); omega⟩
  | num n => exact True.intro
theorem okD_fit {d : Deed} (h : okD d = true) : fitD d := by
  cases d <;> simp only [okD, Bool.and_eq_true, decide_eq_true_eq] at h
  · have := wordS_len h; show _ ≤ 1000000; omega
  · have := wordS_len h.1; exact ⟨by omega, okV_fit h.2⟩
  · have := wordS_len h; show _ ≤ 1000000; omega
  · have := wordS_len h.1; have := wordS_len h.2; exact ⟨by omega, by omega⟩
  · have := wordS_len h.1; have := textL_len h.2.2.2; exact ⟨by omega, by omega⟩
  · have := wordS_len h.1; show _ ≤ 1000000; omega
  · have := wordS_len h.1; have := wordS_len h.2.2; exact ⟨by omega, by omega⟩
  · have := wordS_len h.1; show _ ≤ 1000000; omega
  · have := wordS_len h.1; show _ ≤ 1000000; omega
  · have := wordS_len h.1; show _ ≤ 1000000; omega
  · have := wordS_len h.1; show _ ≤ 1000000; omega
theorem getB_mem {b : Board} {n : Str} {v : Val} (h : getB b n = some v) : (n, v) ∈ b := by
  unfold getB at h
  obtain ⟨p, h1, h2⟩ := Option.map_eq_some_iff.mp h
  have := List.find?_some h1
  have e : p.1 = n := by simpa using this
  have m := List.mem_of_find?_eq_some h1
  obtain ⟨a, c⟩ := p
  cases e; cases h2
  exact m
theorem okB_get {b : Board} (h : okB b) {n : Str} {v : Val} (g : getB b n = some v) : wordS n = true ∧ okV v = true := h.1 _ (getB_mem g)
theorem okB_small {b : Board} (h : okB b) : smallB b := ⟨by have := h.2.1; omega, fun n v g => by
  have o := (okB_get h g).2
  cases v with
  | text l => exact textL_len o
  | row ws => simp only [okV, Bool.and_eq_true, decide_eq_true_eq] at o; exact o.1
  | num k => exact True.intro⟩
theorem okB_del {b : Board} (h : okB b) (n : Str) : okB (delB b n) := ⟨fun p hp => h.1 p (List.mem_filter.mp hp).1, Nat.le_trans (del_len b n) h.2.1, (List.filter_sublist.map _).nodup h.2.2⟩
theorem del_lt {b : Board} {n : Str} {v : Val} (g : getB b n = some v) : (delB b n).length + 1 ≤ b.length := by
  have m := getB_mem g
  have : (delB b n).length < b.length := by
    unfold delB
    refine List.length_filter_lt_length_iff_exists.mpr ⟨_, m, by simp⟩
  omega
theorem not_mem_of {b : Board} {n : Str} (g : getB b n = none) : n ∉ b.map (·.1) := by
  intro hm
  obtain ⟨p, hp, e⟩ := List.mem_map.mp hm
  unfold getB at g
  rw [Option.map_eq_none_iff, List.find?_eq_none] at g
  exact g p hp (by simp [e])
theorem okB_add {b : Board} (h : okB b) {n : Str} {v : Val} (hn : wordS n = true) (hv : okV v = true) (g : getB b n = none) (hl : b.length + 1 ≤ 20) : okB (b ++ [(n, v)]) := by
  refine ⟨fun p hp => ?_, by rw [List.length_append, List.length_singleton]; exact hl, ?_⟩
  · rcases List.mem_append.mp hp with hp | hp
    · exact h.1 p hp
    · rw [List.mem_singleton.mp hp]; exact ⟨hn, hv⟩
  · rw [List.map_append, List.map_cons, List.map_nil]
    exact List.nodup_append.mpr ⟨h.2.2, by simp, fun a ha c hc => by
      rw [List.mem_singleton.mp hc]
      intro z
      subst z
      exact not_mem_of g ha⟩
theorem textL_parts {l : List Nat} : textL l = true ↔ l.length ≤ 200 ∧ ∀ c ∈ l, (decide (32 ≤ c) && decide (c < 127) && decide (c ≠ 37)) = true := by
  unfold textL
  rw [Bool.and_eq_true, decide_eq_true_eq, List.all_eq_true]
theorem okV_law {v v' : Val} {d : Deed} (ov : okV v = true) (od : okD d = true) (h : lawVal v d = some v') : okV v' = true := by
  cases v with
  | text l =>
    obtain ⟨l', e, rfl⟩ := Option.map_eq_some_iff.mp h
    have o := textL_parts.mp (show textL l = true from ov)
    refine textL_parts.mpr ?_
    cases d <;> simp only [lawText] at e <;> try (cases e; done)
    · split at e
      · rename_i n a s hc
        cases e
        simp only [okD, Bool.and_eq_true, decide_eq_true_eq] at od
        have os := textL_parts.mp od.2.2.2
        refine ⟨by rw [List.length_append, List.length_append, List.length_take, List.length_drop]; omega, fun c hc => ?_⟩
        rcases List.mem_append.mp hc with hc | hc
        · rcases List.mem_append.mp hc with hc | hc
          · exact o.2 c (List.mem_of_mem_take hc)
          · exact os.2 c hc
        · exact o.2 c (List.mem_of_mem_drop hc)
      · cases e
    · split at e
      · cases e
        refine ⟨by rw [List.length_append, List.length_take, List.length_drop]; simp only [okD, Bool.and_eq_true, decide_eq_true_eq] at od; omega, fun c hc => ?_⟩
        rcases List.mem_append.mp hc with hc | hc
        · exact o.2 c (List.mem_of_mem_take hc)
        · exact o.2 c (List.mem_of_mem_drop hc)
      · cases e
  | row ws =>
    obtain ⟨l', e, rfl⟩ := Option.map_eq_some_iff.mp h
    simp only [okV, Bool.and_eq_true, decide_eq_true_eq, List.all_eq_true] at ov ⊢
    cases d <;> simp only [lawRow] at e <;> try (cases e; done)
    · split at e
      · cases e
        simp only [okD, Bool.and_eq_true, decide_eq_true_eq] at od
        refine ⟨by rw [List.length_append, List.length_cons, List.length_take, List.length_drop]; omega, fun w hw => ?_⟩
        rcases List.mem_append.mp hw with hw | hw
        · exact ov.2 w (List.mem_of_mem_take hw)
        · rcases List.mem_cons.mp hw with rfl | hw
          · exact od.2.2
          · exact ov.2 w (List.mem_of_mem_drop hw)
      · cases e
    · split at e
      · cases e
        refine ⟨by rw [List.length_append, List.length_take, List.length_drop]; simp only [okD, Bool.and_eq_true, decide_eq_true_eq] at od; omega, fun w hw => ?_⟩
        rcases List.mem_append.mp hw with hw | hw
        · exact ov.2 w (List.mem_of_mem_take hw)
        · exact ov.2 w (List.mem_of_mem_drop hw)
      · cases e
    · split at e
      · cases e
        simp only [okD, Bool.and_eq_true, decide_eq_true_eq] at od
        have inL : ∀ (x y : Nat), ∀ w ∈ ws.take x ++ ws.drop y, wordS w = true := fun x y w hw => by
          rcases List.mem_append.mp hw with hw | hw
          · exact ov.2 w (List.mem_of_mem_take hw)
          · exact ov.2 w (List.mem_of_mem_drop hw)
        refine ⟨?_, fun w hw => ?_⟩
        · rw [List.length_append, List.length_append, List.length_take, List.length_drop, List.length_take, List.length_drop, List.length_append, List.length_take, List.length_drop]; omega
        · rcases List.mem_append.mp hw with hw | hw
          · rcases List.mem_append.mp hw with hw | hw
            · exact inL _ _ w (List.mem_of_mem_take hw)
            · exact ov.2 w (List.mem_of_mem_drop (List.mem_of_mem_take hw))
          · exact inL _ _ w (List.mem_of_mem_drop hw)
      · cases e
  | num k =>
    obtain ⟨l', e, rfl⟩ := Option.map_eq_some_iff.mp h
    cases d <;> simp only [lawNum] at e <;> try (cases e; done)
    · split at e
      · cases e; rename_i hc; exact decide_eq_true hc
      · cases e
    · split at e
      · cases e; rename_i hc; exact decide_eq_true hc
      · cases e
theorem okB_law {b b' : Board} {d : Deed} (ob : okB b) (od : okD d = true) (h : lawDone b d = some b') : okB b' := by
  have gen : ∀ n : Str, (match getB b n with
    | some v => (lawVal v d).map fun v' => delB b n ++ [(n, v')]
    | none => none) = some b' → okB b' := fun n h => by
    cases hg : getB b n with
    | none => rw [hg] at h; cases h
    | some v =>
      rw [hg] at h
      obtain ⟨v', e, rfl⟩ := Option.map_eq_some_iff.mp h
      obtain ⟨w1, w2⟩ := okB_get ob hg
      exact okB_add (okB_del ob n) w1 (okV_law w2 od e) (getB_del b n) (by have := del_lt hg; have := ob.2.1; omega)
  cases d with
  | say s => cases h; exact ob
  | whole n v =>
    simp only [lawDone] at h
    simp only [okD, Bool.and_eq_true] at od
    split at h
    · rename_i hc; cases h; exact okB_add ob od.1 od.2 hc.1 hc.2
    · cases h
  | drop n =>
    simp only [lawDone] at h
    split at h
    · cases h; exact okB_del ob n
    · cases h
  | rename n m =>
    simp only [lawDone] at h
    simp only [okD, Bool.and_eq_true] at od
    cases hg : getB b n with
    | none => rw [hg] at h; cases h
    | some v =>
      rw [hg] at h
      dsimp only at h
      split at h
      · rename_i hc
        cases h
        have hne : m ≠ n := fun z => by rw [z, hg] at hc; cases hc
        exact okB_add (okB_del ob n) od.2 (okB_get ob hg).2 (by rw [getB_del_ne hne]; exact hc) (by have := del_lt hg; have := ob.2.1; omega)
      · cases h
  | write n a s => exact gen n h
  | cut n a k => exact gen n h
  | put n a w => exact gen n h
  | take n a => exact gen n h
  | move n i j => exact gen n h
  | set n x => exact gen n h
  | add n x => exact gen n h
end Dee

set_option maxRecDepth 100000
set_option maxHeartbeats 4000000
namespace Dee
open PySem PySem.Spec L2
theorem keys_enc (b : Board) : asKS (encB b) = some (b.map (·.1)) := by
  induction b with
  | nil => rfl
  | cons p b ih =>
    show (asKS (encB b)).map (p.1 :: ·) = _
    rw [ih]; rfl
theorem frz_encD (d : Deed) (S : Store) : frzOut (.ok (encD d) S) = .ok (encD d) S := by cases d <;> rfl
theorem encD_loc (d : Deed) : ∀ n, encD d ≠ .loc n := by cases d <;> exact fun n h => by cases h
/-- a deed picked out of some -/
theorem run_pickD (ns : List Int) (R : Store) {t : Nat} {ds : List Deed} (ht : t < 900000) (hd : ds ≠ []) : ∃ d ∈ ds, g__law_pick [sc ns, .loc 0, .lst (ds.map encD)] (tw t :: R) = .ok (encD d) (tw (t + 1) :: R) := by
  obtain ⟨x, hx, e⟩ := run_pick ns R (t := t) (ds := ds.map encD) ht (by simpa using hd) (fun d hd n z => by
    obtain ⟨y, _, rfl⟩ := List.mem_map.mp hd
    exact encD_loc y n z)
  obtain ⟨d, h1, rfl⟩ := List.mem_map.mp hx
  exact ⟨d, h1, e⟩
theorem run_pickS (ns : List Int) (R : Store) {t : Nat} {ds : List Str} (ht : t < 900000) (hd : ds ≠ []) : ∃ d ∈ ds, g__law_pick [sc ns, .loc 0, .lst (ds.map D.str)] (tw t :: R) = .ok (.str d) (tw (t + 1) :: R) := by
  obtain ⟨x, hx, e⟩ := run_pick ns R (t := t) (ds := ds.map D.str) ht (by simpa using hd) (fun d hd n z => by
    obtain ⟨y, _, rfl⟩ := List.mem_map.mp hd
    cases z)
  obtain ⟨d, h1, rfl⟩ := List.mem_map.mp hx
  exact ⟨d, h1, e⟩
theorem word_e : wordS (Str.ofString "e") = true := by decide +kernel
theorem word_a : wordS (Str.ofString "a") = true := by decide +kernel
theorem word_f : wordS (Str.ofString "f") = true := by decide +kernel
theorem word_g : wordS (Str.ofString "g") = true := by decide +kernel
theorem wordsN : ∀ w ∈ ([Str.ofString "one", Str.ofString "two", Str.ofString "new"] : List Str), wordS w = true := by decide +kernel
def namesX : List Str := [Str.ofString "e", Str.ofString "f", Str.ofString "g", Str.ofString "a"]
def wordsD : List Str := [Str.ofString "one", Str.ofString "two", Str.ofString "new"]
def drawnN (b : Board) (n : Str) : Prop := n ∈ b.map (·.1) ∨ n ∈ namesX
/-- a deed as it is drawn for a board -/
def drawn (b : Board) : Deed → Prop
  | .say _ => False
  | .whole n v => drawnN b n ∧ drawnV v
  | .drop n => drawnN b n
  | .rename n m => drawnN b n ∧ drawnN b m
  | .write n a s => (∃ l, getB b n = some (.text l) ∧ 0 ≤ a ∧ a ≤ l.length + 1) ∧ 1 ≤ s.length ∧ s.length ≤ 3 ∧ ∀ c ∈ s, c ∈ signL
  | .cut n a k => (∃ l, getB b n = some (.text l) ∧ 0 ≤ a ∧ a ≤ l.length) ∧ 0 < k ∧ k ≤ 201
  | .put n a w => (∃ ws, getB b n = some (.row ws) ∧ 0 ≤ a ∧ a ≤ ws.length + 1) ∧ w ∈ wordsD
  | .take n a => ∃ ws, getB b n = some (.row ws) ∧ 0 ≤ a ∧ a ≤ ws.length
  | .move n i j => ∃ ws, getB b n = some (.row ws) ∧ 0 ≤ i ∧ i ≤ ws.length ∧ 0 ≤ j ∧ j ≤ ws.length
  | .set n x => (∃ k, getB b n = some (.num k)) ∧ 0 ≤ x ∧ x < 50
  | .add n x => (∃ k, getB b n = some (.num k)) ∧ (x = 1000000000 ∨ -10 ≤ x ∧ x < 10)
theorem run_deed2 (ns : List Int) (R : Store) {t : Nat} {b : Board} (ht : t < 600000) (ob : okB b) : ∃ d t', drawn b d ∧ okD d = true ∧ (∀ s, d ≠ .say s) ∧ t ≤ t' ∧ t' ≤ t + 100 ∧ g__law_deed [sc ns, .loc 0, .dct (encB b)] (tw t :: R) = .ok (encD d) (tw t' :: R) := by
  rw [call__law_deed]
  have hlen : (b.map (·.1)).length < 64 := by rw [List.length_map]; have := ob.2.1; omega
  have hsl : (sortS (b.map (·.1))).length = b.length := by rw [(sortS_perm _).length_eq, List.length_map]
  obtain ⟨n, hn, en⟩ := run_pickS ns R (t := t) (ds := sortS (b.map (·.1)) ++ [Str.ofString "e", Str.ofString "a"]) (by omega) (by simp)
  have dn : drawnN b n := by
    rcases List.mem_append.mp hn with hn | hn
    · exact .inl ((sortS_perm _).mem_iff.mp hn)
    · simp only [List.mem_cons, List.not_mem_nil, or_false] at hn
      rcases hn with rfl | rfl
      · exact .inr (by simp [namesX])
      · exact .inr (by simp [namesX])
  have wn : wordS n = true := by
    rcases List.mem_append.mp hn with hn | hn
    · obtain ⟨p, hp, rfl⟩ := List.mem_map.mp ((sortS_perm _).mem_iff.mp hn)
      exact (ob.1 p hp).1
    · simp only [List.mem_cons, List.not_mem_nil, or_false] at hn
      rcases hn with rfl | rfl
      · exact word_e
      · exact word_a
  obtain ⟨way, w0, w1, hw⟩ := run_draw ns R (t := t + 1) (m := 10) (by omega) (by decide)
  have hs1 : (sortS (b.map (·.1))).length + 2 ≤ 1000000 := by rw [hsl]; have := ob.2.1; omega
  have hs2 : (sortS (b.map (·.1))).length ≤ 999998 := by omega
  rw [List.map_append] at en
  simp only [List.map_cons, List.map_nil] at en
  unfold m__law_deed
  have fresh : ∀ t1, t1 < 650000 → ∃ d t', drawn b d ∧ okD d = true ∧ (∀ s, d ≠ .say s) ∧ t1 ≤ t' ∧ t' ≤ t1 + 50 ∧ ∃ m, g__law_pick [sc ns, .loc 0, .lst [.str (Str.ofString "e"), .str (Str.ofString "f"), .str (Str.ofString "g"), .str n]] (tw t1 :: R) = .ok (.str m) (tw (t1 + 1) :: R) ∧ ∃ v1 t2, g__law_value [sc ns, .loc 0] (tw (t1 + 1) :: R) = .ok (encV v1) (tw t2 :: R) ∧
      ∃ v2 t3, g__law_value [sc ns, .loc 0] (tw t2 :: R) = .ok (encV v2) (tw t3 :: R) ∧ g__law_pick [sc ns, .loc 0, .lst [encD (.whole m v1), encD (.whole n v2), encD (.rename n m), encD (.drop n), encD (.drop n)]] (tw t3 :: R) = .ok (encD d) (tw t' :: R) := fun t1 ht1 => by
    obtain ⟨m, hm, em⟩ := run_pickS ns R (t := t1) (ds := [Str.ofString "e", Str.ofString "f", Str.ofString "g", n]) (by omega) (by simp)
    have wm : wordS m = true := by
      simp only [List.mem_cons, List.not_mem_nil, or_false] at hm
      rcases hm with rfl | rfl | rfl | rfl
      · exact word_e
      · exact word_f
      · exact word_g
      · exact wn
    have dm : drawnN b m := by
      simp only [List.mem_cons, List.not_mem_nil, or_false] at hm
      rcases hm with rfl | rfl | rfl | rfl
      · exact .inr (by simp [namesX])
      · exact .inr (by simp [namesX])
      · exact .inr (by simp [namesX])
      · exact dn
    obtain ⟨v1, t2, d1, o1, _, a1, a2, e1⟩ := run_value2 ns R (t := t1 + 1) (by omega)
    obtain ⟨v2, t3, d2, o2, _, b1, b2, e2⟩ := run_value2 ns R (t := t2) (by omega)
    obtain ⟨d, hd, e3⟩ := run_pickD ns R (t := t3) (ds := [.whole m v1, .whole n v2, .rename n m, .drop n, .drop n]) (by omega) (by simp)
    refine ⟨d, t3 + 1, ?_, ?_, ?_, by omega, by omega, m, em, v1, t2, e1, v2, t3, e2, e3⟩
    · simp only [List.mem_cons, List.not_mem_nil, or_false] at hd
      rcases hd with rfl | rfl | rfl | rfl | rfl
      · exact ⟨dm, d1⟩
      · exact ⟨dn, d2⟩
      · exact ⟨dn, dm⟩
      · exact dn
      · exact dn
    · simp only [List.mem_cons, List.not_mem_nil, or_false] at hd
      rcases hd with rfl | rfl | rfl | rfl | rfl <;> simp [okD, wm, wn, o1, o2]
    · simp only [List.mem_cons, List.not_mem_nil, or_false] at hd
      rcases hd with rfl | rfl | rfl | rfl | rfl <;> exact fun s z => by cases z
  have pre : ∀ S : Store, sortedD false [.keys (.dct (encB b))] S = some (.lst ((sortS (b.map (·.1))).map D.str), S) := fun S => by
    have h64 : b.length < 64 := by have := ob.2.1; omega
    simp [sortedD, keys_enc, h64, asK]
  cases hg : getB b n with
  | none =>
    obtain ⟨d, t', o0, o1, o2, o3, o4, m, e1, v1, t2, e2, v2, t3, e3, e4⟩ := fresh (t + 1 + 1) (by omega)
    refine ⟨d, t', o0, o1, o2, by omega, by omega, ?_⟩
    simp only [ed_whole, ed_rename, ed_drop] at e4
    simp [pre, hs1, hs2, en, hg, hw, e1, e2, e3, e4, frz_encD]
  | some v =>
    by_cases h0 : way = 0
    · subst h0
      obtain ⟨d, t', o0, o1, o2, o3, o4, m, e1, v1, t2, e2, v2, t3, e3, e4⟩ := fresh (t + 1 + 1) (by omega)
      refine ⟨d, t', o0, o1, o2, by omega, by omega, ?_⟩
      simp only [ed_whole, ed_rename, ed_drop] at e4
      cases v <;> simp [pre, hs1, hs2, en, hg, hw, e1, e2, e3, e4, frz_encD, ev_text, ev_row, ev_num]
    · have ov := okB_get ob hg
      cases v with
      | num k =>
        obtain ⟨x, x0, x1, hx⟩ := run_draw ns R (t := t + 1 + 1) (m := 50) (by omega) (by decide)
        obtain ⟨y, y0, y1, hy⟩ := run_draw ns R (t := t + 1 + 1 + 1) (m := 20) (by omega) (by decide)
        obtain ⟨d, hd, e3⟩ := run_pickD ns R (t := t + 1 + 1 + 1 + 1) (ds := [.set n x, .add n (y - 10), .add n 1000000000]) (by omega) (by simp)
        refine ⟨d, t + 1 + 1 + 1 + 1 + 1, ?_, ?_, ?_, by omega, by omega, ?_⟩
        · simp only [List.mem_cons, List.not_mem_nil, or_false] at hd
          rcases hd with rfl | rfl | rfl
          · exact ⟨⟨k, hg⟩, by omega, by omega⟩
          · exact ⟨⟨k, hg⟩, .inr (by omega)⟩
          · exact ⟨⟨k, hg⟩, .inl rfl⟩
        · simp only [List.mem_cons, List.not_mem_nil, or_false] at hd
          rcases hd with rfl | rfl | rfl
          · simp only [okD, wn, Bool.true_and, decide_eq_true_eq]; unfold absI; split <;> omega
          · simp only [okD, wn, Bool.true_and, decide_eq_true_eq]; unfold absI; split <;> omega
          · simp only [okD, wn, Bool.true_and]; decide
        · simp only [List.mem_cons, List.not_mem_nil, or_false] at hd
          rcases hd with rfl | rfl | rfl <;> exact fun s z => by cases z
        · simp only [List.map_cons, List.map_nil, ed_set, ed_add] at e3
          simp [pre, hs1, hs2, en, hg, hw, h0, hx, hy, e3, frz_encD, ev_num]
      | text l =>
        have hl : l.length ≤ 200 := textL_len ov.2
        have hl2 : l.length ≤ 1000000 := by omega
        obtain ⟨a, a0, a1, ha⟩ := run_draw ns R (t := t + 1 + 1) (m := (l.length : Int) + 1 + (if way = 1 then 1 else 0)) (by omega) (by split <;> omega)
        by_cases h6 : way < 6
        · obtain ⟨x, x0, x1, hx⟩ := run_draw ns R (t := t + 1 + 1 + 1) (m := 3) (by omega) (by decide)
          obtain ⟨s, s1, s2, hs⟩ := run_signs ns R (t := t + 1 + 1 + 1 + 1) (m := 1 + x) (by omega) (by omega) (by omega)
          refine ⟨.write n a s, t + 1 + 1 + 1 + 1 + (1 + x).toNat, ⟨⟨l, hg, a0, by split at a1 <;> omega⟩, by omega, by omega, s2⟩, ?_, (fun s z => by cases z), by omega, by omega, ?_⟩
          · have hne : s ≠ [] := fun z => by rw [z] at s1; simp at s1; omega
            simp [okD, wn, a0, hne, textL_of (show s.length ≤ 200 by omega) s2]
          · by_cases h1 : way = 1
            · subst h1
              simp only [if_true] at ha
              simp [pre, hs1, hs2, en, hg, hw, hl2, ha, hx, hs, ev_text, ed_write]
            · simp only [if_neg h1, Int.add_zero] at ha
              simp [pre, hs1, hs2, en, hg, hw, h0, h1, h6, hl2, ha, hx, hs, ev_text, ed_write]
        · have h1 : ¬ way = 1 := by omega
          simp only [if_neg h1, Int.add_zero] at ha
          obtain ⟨x, x0, x1, hx⟩ := run_draw ns R (t := t + 1 + 1 + 1) (m := if (l.length : Int) - a > 1 then (l.length : Int) - a else 1) (by omega) (by split <;> omega)
          refine ⟨.cut n a (1 + x), t + 1 + 1 + 1 + 1, ⟨⟨l, hg, a0, by rw [if_neg h1] at a1; omega⟩, by omega, by split at x1 <;> omega⟩, ?_, (fun s z => by cases z), by omega, by omega, ?_⟩
          · simp [okD, wn, a0]; omega
          · simp [pre, hs1, hs2, en, hg, hw, h0, h1, h6, hl2, ha, ev_text, ed_cut]
            simp at hx
            simp [hx]
      | row ws =>
        obtain ⟨a, a0, a1, ha⟩ := run_draw ns R (t := t + 1 + 1) (m := (ws.length : Int) + 1 + (if way = 1 then 1 else 0)) (by omega) (by split <;> omega)
        by_cases h5 : way < 5
        · obtain ⟨x, hx, ex⟩ := run_pickS ns R (t := t + 1 + 1 + 1) (ds := [Str.ofString "one", Str.ofString "two", Str.ofString "new"]) (by omega) (by simp)
          simp only [List.map_cons, List.map_nil] at ex
          refine ⟨.put n a x, t + 1 + 1 + 1 + 1, ⟨⟨ws, hg, a0, by split at a1 <;> omega⟩, hx⟩, ?_, (fun s z => by cases z), by omega, by omega, ?_⟩
          · simp [okD, wn, a0, wordsN x hx]
          · by_cases h1 : way = 1
            · subst h1
              simp only [if_true] at ha
              simp [pre, hs1, hs2, en, hg, hw, ha, ex, ev_row, ed_put]
            · simp only [if_neg h1, Int.add_zero] at ha
              simp [pre, hs1, hs2, en, hg, hw, h0, h1, h5, ha, ex, ev_row, ed_put]
        · have h1 : ¬ way = 1 := by omega
          simp only [if_neg h1, Int.add_zero] at ha
          by_cases h7 : way < 7
          · refine ⟨.take n a, t + 1 + 1 + 1, ⟨ws, hg, a0, by rw [if_neg h1] at a1; omega⟩, ?_, (fun s z => by cases z), by omega, by omega, ?_⟩
            · simp [okD, wn, a0]
            · simp [pre, hs1, hs2, en, hg, hw, h0, h1, h5, h7, ha, ev_row, ed_take]
          · obtain ⟨x, x0, x1, hx⟩ := run_draw ns R (t := t + 1 + 1 + 1) (m := (ws.length : Int) + 1) (by omega) (by omega)
            refine ⟨.move n a x, t + 1 + 1 + 1 + 1, ⟨ws, hg, a0, by rw [if_neg h1] at a1; omega, x0, by omega⟩, ?_, (fun s z => by cases z), by omega, by omega, ?_⟩
            · simp [okD, wn, a0, x0]
            · simp [pre, hs1, hs2, en, hg, hw, h0, h1, h5, h7, ha, hx, ev_row, ed_move]
theorem run_deed (ns : List Int) (R : Store) {t : Nat} {b : Board} (ht : t < 600000) (ob : okB b) : ∃ d t', okD d = true ∧ (∀ s, d ≠ .say s) ∧ t ≤ t' ∧ t' ≤ t + 100 ∧ g__law_deed [sc ns, .loc 0, .dct (encB b)] (tw t :: R) = .ok (encD d) (tw t' :: R) :=
  let ⟨d, t', _, h⟩ := run_deed2 ns R ht ob; ⟨d, t', h⟩
end Dee

set_option maxRecDepth 100000
set_option maxHeartbeats 4000000
namespace Dee
open PySem PySem.Spec L2
/-! ### boards alike -/
theorem eqZ_strs {S : Store} (k : Nat) (ws : List Str) : eqZ (eqD S (k + 1)) (ws.map D.str) (ws.map D.str) = some true := by
  induction ws with
  | nil => rfl
  | cons w ws ih =>
    show (match eqD S (k + 1) (.str w) (.str w), eqZ (eqD S (k + 1)) (ws.map D.str) (ws.map D.str) with
      | some b, some c => some (b && c)
      | _, _ => none) = _
    rw [ih]
    have : eqD S (k + 1) (.str w) (.str w) = some true := by
      unfold eqD
      simp [scEq]
    rw [this]; rfl
theorem eqD_tup {S : Store} {k : Nat} {xs ys : List D} {r : Bool} (h : eqZ (eqD S k) xs ys = some r) : eqD S (k + 1) (.tup xs) (.tup ys) = some (r && decide (xs.length = ys.length)) := by
  show (match eqZ (eqD S k) xs ys with
    | some r => some (r && decide (xs.length = ys.length))
    | none => none) = _
  rw [h]
theorem eqD_encV {S : Store} (v : Val) : eqD S 20 (encV v) (encV v) = some true := by
  cases v with
  | text l =>
    rw [ev_text, eqD_tup (r := true)]
    · simp
    · show some ((decide _) && ((decide _) && true)) = _
      simp
  | num n =>
    rw [ev_num, eqD_tup (r := true)]
    · simp
    · show some ((decide _) && ((decide _) && true)) = _
      simp
  | row ws =>
    rw [ev_row, eqD_tup (r := true)]
    · simp
    · have h := eqD_tup (eqZ_strs (S := S) 17 ws)
      show (match eqD S 19 (.str (Str.ofString "row")) (.str (Str.ofString "row")), (match eqD S 19 (.tup (ws.map D.str)) (.tup (ws.map D.str)), some true with
        | some b, some c => some (b && c)
        | _, _ => none) with
        | some b, some c => some (b && c)
        | _, _ => none) = _
      rw [h]
      show some ((decide _) && _) = _
      simp
theorem getB_of {b : Board} (h : (b.map (·.1)).Nodup) : ∀ {p : Str × Val}, p ∈ b → getB b p.1 = some p.2 := by
  induction b with
  | nil => intro p hp; cases hp
  | cons q b ih =>
    intro p hp
    rw [getB_cons]
    rw [List.map_cons, List.nodup_cons] at h
    rcases List.mem_cons.mp hp with rfl | hp
    · rw [if_pos rfl]
    · rw [if_neg (fun z => h.1 (by rw [z]; exact List.mem_map_of_mem hp))]
      exact ih h.2 hp
theorem eqKs_same {S : Store} {b : Board} : ∀ (c : Board), (∀ p ∈ c, getB b p.1 = some p.2) → eqKs (eqD S 20) (encB b) (encB c) = some true
  | [], _ => rfl
  | p :: c, h => by
    show (match lk (encB b) (.inr p.1) with
      | none => some false
      | some d' => match eqD S 20 (encV p.2) d', eqKs (eqD S 20) (encB b) (encB c) with
        | some b, some c => some (b && c)
        | _, _ => none) = _
    rw [lk_enc, h p (List.mem_cons_self ..), eqKs_same c fun q hq => h q (List.mem_cons_of_mem _ hq)]
    show (match eqD S 20 (encV p.2) (encV p.2), some true with
        | some b, some c => some (b && c)
        | _, _ => none) = _
    rw [eqD_encV]; rfl
theorem eq_board {S : Store} {b : Board} (h : okB b) : eqTop S (.dct (encB b)) (.dct (encB b)) = some true := by
  show (if (encB b).length = (encB b).length then eqKs (eqD S 20) (encB b) (encB b) else some false) = _
  rw [if_pos rfl, eqKs_same b fun p hp => getB_of h.2.2 hp]
theorem join_say {x y z : Deed} (h : joinD x y = some z) : ∀ s, z ≠ .say s := by
  intro s e
  subst e
  cases x <;> cases y <;> simp only [joinD] at h <;> first
    | (cases h; done)
    | (split at h <;> cases h)
theorem join_ok {x y z : Deed} (ox : okD x = true) (oy : okD y = true) (h : joinD x y = some z) : okD z = true := by
  cases x <;> cases y <;> simp only [joinD] at h <;> try (cases h; done)
  · split at h
    · rename_i n p s m q u hc
      cases h
      simp only [okD, Bool.and_eq_true, decide_eq_true_eq] at ox oy ⊢
      have t1 := textL_parts.mp ox.2.2.2
      have t2 := textL_parts.mp oy.2.2.2
      refine ⟨ox.1, ox.2.1, ?_, textL_parts.mpr ⟨?_, fun c hc => ?_⟩⟩
      · intro z
        have := congrArg List.length z
        simp only [List.length_append, List.length_nil] at this
        have : u = [] := List.eq_nil_of_length_eq_zero (by omega)
        exact oy.2.2.1 this
      · rw [List.length_append, List.length_append, List.length_take, List.length_drop]; omega
      · rcases List.mem_append.mp hc with hc | hc
        · rcases List.mem_append.mp hc with hc | hc
          · exact t1.2 c (List.mem_of_mem_take hc)
          · exact t2.2 c hc
        · exact t1.2 c (List.mem_of_mem_drop hc)
    · cases h
  · split at h
    · cases h
      simp only [okD, Bool.and_eq_true, decide_eq_true_eq] at ox oy ⊢
      exact ⟨ox.1, oy.2.1, by omega⟩
    · cases h
  · split at h
    · cases h
      simp only [okD, Bool.and_eq_true, decide_eq_true_eq] at ox oy ⊢
      exact ⟨ox.1, ox.2.1, oy.2.2⟩
    · cases h
  · split at h
    · cases h
      simp only [okD, Bool.and_eq_true, decide_eq_true_eq] at ox oy ⊢
      exact ⟨ox.1, oy.2⟩
    · cases h
  · split at h
    · rename_i hc
      cases h
      simp only [okD, Bool.and_eq_true, decide_eq_true_eq] at ox oy ⊢
      exact ⟨ox.1, hc.2⟩
    · cases h
end Dee

set_option maxRecDepth 100000
set_option maxHeartbeats 4000000
namespace Dee
open PySem PySem.Spec L2
/-! ### the program's deeds on boards -/
/-- a board with something else by a name, in its place -/
def putB (b : Board) (n : Str) (v : Val) : Board := if (getB b n).isSome then b.map (fun p => if p.1 = n then (p.1, v) else p) else b ++ [(n, v)]
theorem put_encB (b : Board) (n : Str) (v : Val) : putL (encB b) (.inr n) (encV v) = encB (putB b n v) := by
  unfold putL putB
  rw [any_enc]
  cases h : (getB b n).isSome with
  | false => simp [encB]
  | true =>
    simp only [if_true]
    unfold encB
    rw [List.map_map, List.map_map]
    refine List.map_congr_left fun p _ => ?_
    by_cases hp : p.1 = n
    · simp [hp]
    · simp [hp]
theorem getB_map (b : Board) (n m : Str) (v : Val) : getB (b.map (fun p => if p.1 = n then (p.1, v) else p)) m = if m = n then (getB b n).map (fun _ => v) else getB b m := by
  induction b with
  | nil => simp [getB]
  | cons p b ih =>
    rw [List.map_cons, getB_cons, getB_cons, getB_cons, ih]
    by_cases hp : p.1 = n
    · by_cases hm : m = n
      · simp [hp, hm]
      · have hnm : ¬ n = m := fun z => hm z.symm
        simp [hp, hm, hnm]
    · by_cases hm : m = n
      · simp [hp, hm]
      · simp [hp, hm]
theorem getB_app (b c : Board) (m : Str) : getB (b ++ c) m = (getB b m).or (getB c m) := by
  unfold getB
  rw [List.find?_append]
  cases b.find? (fun p => decide (p.1 = m)) <;> simp
theorem getB_put (b : Board) (n m : Str) (v : Val) : getB (putB b n v) m = if m = n then some v else getB b m := by
  unfold putB
  cases h : getB b n with
  | none =>
    simp only [Option.isSome_none, Bool.false_eq_true, if_false]
    rw [getB_app]
    by_cases hm : m = n
    · subst hm; rw [h]; simp [getB]
    · have hnm : ¬ n = m := fun z => hm z.symm
      rw [if_neg hm]
      cases getB b m <;> simp [getB, hnm]
  | some x =>
    simp only [Option.isSome_some, if_true]
    rw [getB_map, h]; rfl
theorem putB_len (b : Board) (n : Str) (v : Val) : (putB b n v).length = if (getB b n).isSome then b.length else b.length + 1 := by
  unfold putB
  split <;> simp
theorem run_with_value (b : Board) (n : Str) (v : Val) (S : Store) (h : b.length < 1000000) : g_with_value [.dct (encB b), .str n, encV v] S = .ok (.dct (encB (putB b n v))) S := by
  rw [call_with_value]
  unfold m_with_value
  simp [cellK, okn, set_len, encB_len, h, keyD, put_encB, frz_found, gc_board]
theorem run_without (b : Board) (n : Str) (S : Store) (h : (getB b n).isSome = true) : g_without [.dct (encB b), .str n] S = .ok (.dct (encB (delB b n))) S := by
  rw [call_without]
  unfold m_without
  obtain ⟨v, e⟩ := Option.isSome_iff_exists.mp h
  simp [dpopD, isK, asK, cellK, okn, set_len, keyD, e, frz_found, gc_board]
/-- what the program makes of a board -/
def progVal (b : Board) (n : Str) (d : Deed) : Option Board := match getB b n with
  | some v => (lawVal v d).map fun v' => putB b n v'
  | none => none
def progDone (b : Board) (d : Deed) : Option Board := match d with
  | .say _ => some b
  | .whole n v => if getB b n = none ∧ b.length < 20 then some (putB b n v) else none
  | .drop n => if (getB b n).isSome then some (delB b n) else none
  | .rename n m => match getB b n with
    | some v => if getB b m = none then some (putB (delB b n) m v) else none
    | none => none
  | d => progVal b (nameD d) d
/-- a board, or the refusal of a deed -/
def outB (S : Store) : Option Board → Out D
  | some b => .ok (.dct (encB b)) S
  | none => .exn "BadDeed" [] S
@[simp] theorem outB_some (S : Store) (b : Board) : outB S (some b) = .ok (.dct (encB b)) S := rfl
@[simp] theorem outB_none (S : Store) : outB S none = .exn "BadDeed" [] S := rfl
theorem run_look_say (s : Str) (S : Store) (h : s.length ≤ 1000000) : g_look_deed [encD (.say s)] S = if wordS s = true then .ok .non S else .exn "BadDeed" [] S := by
  rw [call_look_deed]
  unfold m_look_deed
  have hlc : mLc false (iAt (mSl false (mVar 0) (oSome (mC (.int 2))) oNone)) [2] (TgS.one 2).g tYesD (mBin geD (mVar 2) (mC (.int 0))) [some (.tup [.str "say", .str s]), some (.str "say"), none] S = .ok (.lst []) S :=
    mLc_map (d := .tup []) (l := ([] : List Int)) (g := D.int) (h := fun i => D.bl (decide (0 ≤ i))) (by simp [cutL, HT.sIx]) rfl (by simp) (by simp)
  by_cases hw : wordS s = true <;> simp [encD, atI, ixN, run_must, run_wordS s S h, hw, hlc, asBs]
theorem run_lookD (d : Deed) (S : Store) (h : fitD d) : g_look_deed [encD d] S = if okD d = true then .ok .non S else .exn "BadDeed" [] S := by
  cases d with
  | say s => exact run_look_say s S h
  | _ => exact run_look _ S h (fun s z => by cases z)
theorem run_on_text_write (l s : List Nat) (n : Str) (a : Int) (S : Store) (ha : 0 ≤ a) (hl : l.length ≤ 200) (hs : s.length ≤ 200) : g_on_text [.str (Tx l), encD (.write n a s)] S =
    match lawText l (.write n a s) with
    | some l' => .ok (.str (Tx l')) S
    | none => .exn "BadDeed" [] S := by
  rw [call_on_text]
  unfold m_on_text
  have h1 : l.length ≤ 1000000 := by omega
  have h2 : s.length ≤ 1000000 := by omega
  by_cases h3 : a ≤ l.length
  · by_cases h4 : l.length + s.length ≤ 200
    · have h4' : (l.length : Int) + s.length ≤ 200 := by omega
      have h5 : a.toNat + s.length ≤ 1000000 := by omega
      have h6 : a.toNat + s.length + (l.length - a.toNat) ≤ 1000000 := by omega
      have h7 : a.toNat + (s.length + (l.length - a.toNat)) ≤ 1000000 := by omega
      have h8 : min a.toNat l.length = a.toNat := by omega
      simp [encD, atI, ixN, run_must, lawText, h1, h2, h3, h4, h4', h5, h6, h7, h8, cut_to _ ha, cut_from _ ha]
    · have h4' : ¬ (l.length : Int) + s.length ≤ 200 := by omega
      simp [encD, atI, ixN, run_must, lawText, h1, h2, h3, h4, h4']
  · simp [encD, atI, ixN, run_must, lawText, h1, h2, h3]
theorem run_on_text_cut (l : List Nat) (n : Str) (a k : Int) (S : Store) (ha : 0 ≤ a) (hk : 0 < k) (hl : l.length ≤ 200) : g_on_text [.str (Tx l), encD (.cut n a k)] S =
    match lawText l (.cut n a k) with
    | some l' => .ok (.str (Tx l')) S
    | none => .exn "BadDeed" [] S := by
  rw [call_on_text]
  unfold m_on_text
  have h1 : l.length ≤ 1000000 := by omega
  have hak : 0 ≤ a + k := by omega
  by_cases h3 : a + k ≤ l.length
  · have h6 : a.toNat + (l.length - (a + k).toNat) ≤ 1000000 := by omega
    have h7 : min a.toNat l.length = a.toNat := by omega
    simp [encD, atI, ixN, run_must, lawText, h1, h3, h6, h7, cut_to _ ha, cut_from _ hak]
  · simp [encD, atI, ixN, run_must, lawText, h1, h3]
theorem run_on_row_put (ws : List Str) (n w : Str) (a : Int) (S : Store) (ha : 0 ≤ a) (hl : ws.length ≤ 40) : g_on_row [.tup (ws.map .str), encD (.put n a w)] S =
    match lawRow ws (.put n a w) with
    | some l' => .ok (.tup (l'.map .str)) S
    | none => .exn "BadDeed" [] S := by
  rw [call_on_row]
  unfold m_on_row
  by_cases h3 : a ≤ ws.length
  · by_cases h4 : ws.length < 40
    · have h7 : min a.toNat ws.length = a.toNat := by omega
      have h5 : a.toNat + 1 ≤ 1000000 := by omega
      have h5' : a.toNat ≤ 999999 := by omega
      have h6 : a.toNat + (ws.length - a.toNat + 1) ≤ 1000000 := by omega
      have h6' : a.toNat + (1 + (ws.length - a.toNat)) ≤ 1000000 := by omega
      have h6'' : a.toNat + 1 + (ws.length - a.toNat) ≤ 1000000 := by omega
      simp [encD, atI, ixN, run_must, lawRow, h3, h4, cut_to _ ha, cut_from _ ha, h5, h5', h6, h6', h6'', h7, List.map_take, List.map_drop]
    · simp [encD, atI, ixN, run_must, lawRow, h3, h4]
  · simp [encD, atI, ixN, run_must, lawRow, h3]
theorem run_on_row_take (ws : List Str) (n : Str) (a : Int) (S : Store) (ha : 0 ≤ a) (hl : ws.length ≤ 40) : g_on_row [.tup (ws.map .str), encD (.take n a)] S =
    match lawRow ws (.take n a) with
    | some l' => .ok (.tup (l'.map .str)) S
    | none => .exn "BadDeed" [] S := by
  rw [call_on_row]
  unfold m_on_row
  have hak : 0 ≤ a + 1 := by omega
  by_cases h3 : a < ws.length
  · have h7 : min a.toNat ws.length = a.toNat := by omega
    have h6 : a.toNat + (ws.length - (a + 1).toNat) ≤ 1000000 := by omega
    simp [encD, atI, ixN, run_must, lawRow, h3, cut_to _ ha, cut_from _ hak, h6, h7, List.map_take, List.map_drop]
  · simp [encD, atI, ixN, run_must, lawRow, h3]
theorem atI_map {α β : Type} (f : α → β) (l : List α) (i : Int) : atI (l.map f) i = (atI l i).map f := by
  unfold atI
  rw [List.length_map]
  cases ixN l.length i <;> simp
theorem atI3 {α : Type} (x y z u : α) (l : List α) : atI (x :: y :: z :: u :: l) 3 = some u := by
  unfold atI ixN
  have : (3 : Int) < ((x :: y :: z :: u :: l).length : Nat) := by simp only [List.length_cons]; omega
  simp only [this, if_true]
  simp
theorem atI_nonneg {α : Type} (l : List α) {a : Int} (h0 : 0 ≤ a) (h1 : a < l.length) : ∃ x, atI l a = some x ∧ (l.drop a.toNat).take 1 = [x] ∧ l[a.toNat]? = some x := by
  have h : a.toNat < l.length := by omega
  refine ⟨l[a.toNat], ?_, ?_, List.getElem?_eq_getElem h⟩
  · unfold atI ixN
    rw [if_pos h0, if_pos h1]
    exact List.getElem?_eq_getElem h
  · rw [List.drop_eq_getElem_cons h]; rfl
theorem run_on_row_move (ws : List Str) (n : Str) (a j : Int) (S : Store) (ha : 0 ≤ a) (hj : 0 ≤ j) (hl : ws.length ≤ 40) : g_on_row [.tup (ws.map .str), encD (.move n a j)] S =
    match lawRow ws (.move n a j) with
    | some l' => .ok (.tup (l'.map .str)) S
    | none => .exn "BadDeed" [] S := by
  rw [call_on_row]
  unfold m_on_row
  have hak : 0 ≤ a + 1 := by omega
  by_cases h3 : a < ws.length
  · have h7 : min a.toNat ws.length = a.toNat := by omega
    have h6 : a.toNat + (ws.length - (a + 1).toNat) ≤ 1000000 := by omega
    obtain ⟨x, x1, x2, _⟩ := atI_nonneg ws ha h3
    have x1' : atI (ws.map D.str) a = some (.str x) := by rw [atI_map, x1]; rfl
    have h9 : min j.toNat (a.toNat + (ws.length - (a + 1).toNat)) ≤ 999999 := by omega
    have h9' : min j.toNat (a.toNat + (ws.length - (a + 1).toNat)) + 1 ≤ 1000000 := by omega
    have h10 : min j.toNat (a.toNat + (ws.length - (a + 1).toNat)) + (a.toNat + (ws.length - (a + 1).toNat) - j.toNat + 1) ≤ 1000000 := by omega
    have h11 : min j.toNat (a.toNat + (ws.length - (a + 1).toNat)) + 1 + (a.toNat + (ws.length - (a + 1).toNat) - j.toNat) ≤ 1000000 := by omega
    have h12 : min j.toNat (a.toNat + (ws.length - (a + 1).toNat)) + (1 + (a.toNat + (ws.length - (a + 1).toNat) - j.toNat)) ≤ 1000000 := by omega
    by_cases h8 : j < ws.length
    · simp [encD, atI0, atI1, atI2, atI3, run_must, lawRow, h3, h8, cut_to _ ha, cut_from _ hak, cut_to _ hj, cut_from _ hj, h6, h7, h9, h9', h10, h11, h12, x1', x2, List.map_take, List.map_drop]
    · simp [encD, atI0, atI1, atI2, atI3, run_must, lawRow, h3, h8, cut_to _ ha, cut_from _ hak, h6, h7, List.map_take, List.map_drop]
  · simp [encD, atI, ixN, run_must, lawRow, h3]
end Dee

set_option maxRecDepth 100000
set_option maxHeartbeats 4000000
namespace Dee
open PySem PySem.Spec L2
/-! ### done, back -/
theorem encV_ix (v : Val) (S : Store) : ∃ a c, encV v = .tup [.str a, c] ∧ atI [D.str a, c] 0 = some (.str a) := by cases v <;> exact ⟨_, _, rfl, rfl⟩
theorem val_row (v : Val) (S : Store) : ∀ ws, v = .row ws → tupleD [.tup (ws.map D.str)] S = some (.tup (ws.map D.str), S) := fun ws _ => rfl
theorem gc_enc (S : Store) (b : Board) : gcOut S (.ok (.dct (encB b)) S) = .ok (.dct (encB b)) S := gc_same
theorem run_names_whole (b : Board) (n : Str) (v : Val) (S : Store) (ob : okB b) : g_on_names [.dct (encB b), encD (.whole n v)] S = outB S (progDone b (.whole n v)) := by
  rw [call_on_names]
  unfold m_on_names
  have hl := ob.2.1
  have h1 : b.length < 1000000 := by omega
  have hw := run_with_value b n v S h1
  cases hg : getB b n with
  | some u => simp [encD, atI0, atI1, atI2, run_must, progDone, hg, encB_len]
  | none =>
    by_cases h2 : b.length < 20
    · cases v <;> simp [ev_text, ev_row, ev_num] at hw <;> simp [encD, atI0, atI1, atI2, run_must, progDone, hg, encB_len, h2, ev_text, ev_row, ev_num, hw]
    · simp [encD, atI0, atI1, atI2, run_must, progDone, hg, encB_len, h2]
theorem run_names_drop (b : Board) (n : Str) (S : Store) : g_on_names [.dct (encB b), encD (.drop n)] S = outB S (progDone b (.drop n)) := by
  rw [call_on_names]
  unfold m_on_names
  cases hg : getB b n with
  | none => simp [encD, atI0, atI1, run_must, progDone, hg]
  | some u => simp [encD, atI0, atI1, run_must, progDone, hg, run_without b n _ (by rw [hg]; rfl)]
theorem run_names_rename (b : Board) (n m : Str) (S : Store) (ob : okB b) : g_on_names [.dct (encB b), encD (.rename n m)] S = outB S (progDone b (.rename n m)) := by
  rw [call_on_names]
  unfold m_on_names
  have h1 : (delB b n).length < 1000000 := by have := ob.2.1; have := del_len b n; omega
  cases hg : getB b n with
  | none => simp [encD, atI0, atI1, run_must, progDone, hg]
  | some u =>
    cases hm : getB b m with
    | some u2 => simp [encD, atI0, atI1, atI2, run_must, progDone, hg, hm]
    | none => simp [encD, atI0, atI1, atI2, run_must, progDone, hg, hm, run_without b n _ (by rw [hg]; rfl), run_with_value _ _ _ _ h1]
theorem run_done_prog (b : Board) (d : Deed) (S : Store) (ob : okB b) (fd : fitD d) : g_done [.dct (encB b), encD d] S = if okD d = true then outB S (progDone b d) else .exn "BadDeed" [] S := by
  rw [call_done]
  unfold m_done
  have lk := run_lookD d S fd
  by_cases od : okD d = true
  · rw [if_pos od] at lk
    rw [if_pos od]
    have h1 : b.length < 1000000 := by have := ob.2.1; omega
    cases d with
    | say s => simp only [encD] at lk ⊢; simp [lk, progDone]
    | whole n v =>
      have hn := run_names_whole b n v S ob
      simp only [encD] at lk hn ⊢
      cases hp : progDone b (.whole n v) <;> simp [hp] at hn <;> simp [lk, hn]
    | drop n =>
      have hn := run_names_drop b n S
      simp only [encD] at lk hn ⊢
      cases hp : progDone b (.drop n) <;> simp [hp] at hn <;> simp [lk, hn]
    | rename n m =>
      have hn := run_names_rename b n m S ob
      simp only [encD] at lk hn ⊢
      cases hp : progDone b (.rename n m) <;> simp [hp] at hn <;> simp [lk, hn]
    | write n a s =>
      simp only [okD, Bool.and_eq_true, decide_eq_true_eq] at od
      have hs := textL_len od.2.2.2
      cases hg : getB b n with
      | none => simp only [encD] at lk ⊢; simp [lk, run_must, hg, progDone, progVal, nameD]
      | some v =>
        cases v with
        | text l =>
          have hl : l.length ≤ 200 := textL_len (okB_get ob hg).2
          have ht := run_on_text_write l s n a S od.2.1 hl hs
          have hw := fun l' => run_with_value b n (.text l') S h1
          simp only [encD] at lk ht ⊢
          cases hq : lawText l (.write n a s) <;> simp [hq] at ht <;> simp [lk, run_must, hg, progDone, progVal, nameD, lawVal, hq, ht, encV, k_KINDS, atI0, List.lookup_cons] <;> simp [encV] at hw <;> simp [hw]
        | row ws => simp only [encD] at lk ⊢; simp [lk, run_must, hg, progDone, progVal, nameD, lawVal, lawRow, encV, k_KINDS, atI0, List.lookup_cons]
        | num k => simp only [encD] at lk ⊢; simp [lk, run_must, hg, progDone, progVal, nameD, lawVal, lawNum, encV, k_KINDS, atI0, List.lookup_cons]
    | cut n a c =>
      simp only [okD, Bool.and_eq_true, decide_eq_true_eq] at od
      cases hg : getB b n with
      | none => simp only [encD] at lk ⊢; simp [lk, run_must, hg, progDone, progVal, nameD]
      | some v =>
        cases v with
        | text l =>
          have hl : l.length ≤ 200 := textL_len (okB_get ob hg).2
          have ht := run_on_text_cut l n a c S od.2.1 od.2.2 hl
          have hw := fun l' => run_with_value b n (.text l') S h1
          simp only [encD] at lk ht ⊢
          cases hq : lawText l (.cut n a c) <;> simp [hq] at ht <;> simp [lk, run_must, hg, progDone, progVal, nameD, lawVal, hq, ht, encV, k_KINDS, atI0, List.lookup_cons] <;> simp [encV] at hw <;> simp [hw]
        | row ws => simp only [encD] at lk ⊢; simp [lk, run_must, hg, progDone, progVal, nameD, lawVal, lawRow, encV, k_KINDS, atI0, List.lookup_cons]
        | num k => simp only [encD] at lk ⊢; simp [lk, run_must, hg, progDone, progVal, nameD, lawVal, lawNum, encV, k_KINDS, atI0, List.lookup_cons]
    | put n a w =>
      simp only [okD, Bool.and_eq_true, decide_eq_true_eq] at od
      cases hg : getB b n with
      | none => simp only [encD] at lk ⊢; simp [lk, run_must, hg, progDone, progVal, nameD]
      | some v =>
        cases v with
        | text l => simp only [encD] at lk ⊢; simp [lk, run_must, hg, progDone, progVal, nameD, lawVal, lawText, encV, k_KINDS, atI0, List.lookup_cons]
        | row ws =>
          have hl : ws.length ≤ 40 := (okB_small ob).2 _ _ hg
          have ht := run_on_row_put ws n w a S od.2.1 hl
          have hw := fun l' => run_with_value b n (.row l') S h1
          simp only [encD] at lk ht ⊢
          cases hq : lawRow ws (.put n a w) <;> simp [hq] at ht <;> simp [lk, run_must, hg, progDone, progVal, nameD, lawVal, hq, ht, encV, k_KINDS, atI0, List.lookup_cons] <;> simp [encV] at hw <;> simp [hw]
        | num k => simp only [encD] at lk ⊢; simp [lk, run_must, hg, progDone, progVal, nameD, lawVal, lawNum, encV, k_KINDS, atI0, List.lookup_cons]
    | take n a =>
      simp only [okD, Bool.and_eq_true, decide_eq_true_eq] at od
      cases hg : getB b n with
      | none => simp only [encD] at lk ⊢; simp [lk, run_must, hg, progDone, progVal, nameD]
      | some v =>
        cases v with
        | text l => simp only [encD] at lk ⊢; simp [lk, run_must, hg, progDone, progVal, nameD, lawVal, lawText, encV, k_KINDS, atI0, List.lookup_cons]
        | row ws =>
          have hl : ws.length ≤ 40 := (okB_small ob).2 _ _ hg
          have ht := run_on_row_take ws n a S od.2 hl
          have hw := fun l' => run_with_value b n (.row l') S h1
          simp only [encD] at lk ht ⊢
          cases hq : lawRow ws (.take n a) <;> simp [hq] at ht <;> simp [lk, run_must, hg, progDone, progVal, nameD, lawVal, hq, ht, encV, k_KINDS, atI0, List.lookup_cons] <;> simp [encV] at hw <;> simp [hw]
        | num k => simp only [encD] at lk ⊢; simp [lk, run_must, hg, progDone, progVal, nameD, lawVal, lawNum, encV, k_KINDS, atI0, List.lookup_cons]
    | move n a j =>
      simp only [okD, Bool.and_eq_true, decide_eq_true_eq] at od
      cases hg : getB b n with
      | none => simp only [encD] at lk ⊢; simp [lk, run_must, hg, progDone, progVal, nameD]
      | some v =>
        cases v with
        | text l => simp only [encD] at lk ⊢; simp [lk, run_must, hg, progDone, progVal, nameD, lawVal, lawText, encV, k_KINDS, atI0, List.lookup_cons]
        | row ws =>
          have hl : ws.length ≤ 40 := (okB_small ob).2 _ _ hg
          have ht := run_on_row_move ws n a j S od.2.1 od.2.2 hl
          have hw := fun l' => run_with_value b n (.row l') S h1
          simp only [encD] at lk ht ⊢
          cases hq : lawRow ws (.move n a j) <;> simp [hq] at ht <;> simp [lk, run_must, hg, progDone, progVal, nameD, lawVal, hq, ht, encV, k_KINDS, atI0, List.lookup_cons] <;> simp [encV] at hw <;> simp [hw]
        | num k => simp only [encD] at lk ⊢; simp [lk, run_must, hg, progDone, progVal, nameD, lawVal, lawNum, encV, k_KINDS, atI0, List.lookup_cons]
    | set n x =>
      simp only [okD, Bool.and_eq_true, decide_eq_true_eq] at od
      cases hg : getB b n with
      | none => simp only [encD] at lk ⊢; simp [lk, run_must, hg, progDone, progVal, nameD]
      | some v =>
        cases v with
        | text l => simp only [encD] at lk ⊢; simp [lk, run_must, hg, progDone, progVal, nameD, lawVal, lawText, encV, k_KINDS, atI0, List.lookup_cons]
        | row ws => simp only [encD] at lk ⊢; simp [lk, run_must, hg, progDone, progVal, nameD, lawVal, lawRow, encV, k_KINDS, atI0, List.lookup_cons]
        | num k =>
          have hw := run_with_value b n (.num x) S h1
          have hx : (if x < 0 then -x else x) ≤ 1000000000 := od.2
          simp only [encD] at lk ⊢
          simp [lk, run_must, hg, progDone, progVal, nameD, lawVal, lawNum, encV, k_KINDS, atI0, atI2, List.lookup_cons, od.2, hx]
          simp [encV] at hw
          simp [hw]
    | add n x =>
      simp only [okD, Bool.and_eq_true, decide_eq_true_eq] at od
      cases hg : getB b n with
      | none => simp only [encD] at lk ⊢; simp [lk, run_must, hg, progDone, progVal, nameD]
      | some v =>
        cases v with
        | text l => simp only [encD] at lk ⊢; simp [lk, run_must, hg, progDone, progVal, nameD, lawVal, lawText, encV, k_KINDS, atI0, List.lookup_cons]
        | row ws => simp only [encD] at lk ⊢; simp [lk, run_must, hg, progDone, progVal, nameD, lawVal, lawRow, encV, k_KINDS, atI0, List.lookup_cons]
        | num k =>
          have hw := run_with_value b n (.num (k + x)) S h1
          simp only [encD] at lk ⊢
          by_cases hx : absI (k + x) ≤ 1000000000
          · have hx' : (if k + x < 0 then -(k + x) else k + x) ≤ 1000000000 := hx
            simp [lk, run_must, hg, progDone, progVal, nameD, lawVal, lawNum, encV, k_KINDS, atI0, atI2, List.lookup_cons, hx, hx']
            simp [encV] at hw
            simp [hw]
          · have hx' : ¬ (if k + x < 0 then -(k + x) else k + x) ≤ 1000000000 := hx
            simp [lk, run_must, hg, progDone, progVal, nameD, lawVal, lawNum, encV, k_KINDS, atI0, atI2, List.lookup_cons, hx, hx']
  · rw [if_neg od] at lk
    rw [if_neg od]
    simp [lk]
/-- what takes a deed back -/
def backP (b : Board) : Deed → Option Deed
  | .say _ => none
  | .whole n _ => some (.drop n)
  | .drop n => match getB b n with
    | some v => some (.whole n v)
    | none => none
  | .rename n m => some (.rename m n)
  | .write n a s => some (.cut n a s.length)
  | .cut n a k => match getB b n with
    | some (.text l) => some (.write n a ((l.drop a.toNat).take k.toNat))
    | _ => none
  | .put n a _ => some (.take n a)
  | .take n a => match getB b n with
    | some (.row ws) => match ws[a.toNat]? with
      | some w => some (.put n a w)
      | none => none
    | _ => none
  | .move n i j => some (.move n j i)
  | .set n _ => match getB b n with
    | some (.num k) => some (.set n k)
    | _ => none
  | .add n x => some (.add n (0 - x))
theorem cut_mid {α : Type} (l : List α) {a k : Int} (h : 0 ≤ a) (hk : 0 < k) (h2 : a + k ≤ l.length) : cutL l (some a) (some (a + k)) = (l.drop a.toNat).take k.toNat := by
  unfold cutL HT.sIx
  have e1 : ¬ a < 0 := by omega
  have e2 : ¬ a + k < 0 := by omega
  simp only [e1, e2, if_false]
  rw [Nat.min_eq_left (by omega), Nat.min_eq_left (by omega)]
  congr 1
  omega
theorem progVal_some {b b' : Board} {n : Str} {d : Deed} (h : progVal b n d = some b') : ∃ v v', getB b n = some v ∧ lawVal v d = some v' ∧ b' = putB b n v' := by
  unfold progVal at h
  cases hg : getB b n with
  | none => rw [hg] at h; cases h
  | some v =>
    rw [hg] at h
    obtain ⟨v', e1, e2⟩ := Option.map_eq_some_iff.mp h
    exact ⟨v, v', rfl, e1, e2.symm⟩
theorem run_back_prog (b : Board) (d : Deed) (S : Store) (ob : okB b) (fd : fitD d) : g_back [.dct (encB b), encD d] S = if okD d = true ∧ (progDone b d).isSome = true then .ok (encO (backP b d)) S else .exn "BadDeed" [] S := by
  rw [call_back]
  unfold m_back
  have hd := run_done_prog b d S ob fd
  by_cases od : okD d = true
  · rw [if_pos od] at hd
    cases hp : progDone b d with
    | none => rw [hp] at hd; simp [hd]
    | some b' =>
      rw [hp] at hd
      simp only [od, Option.isSome_some, and_self, if_true]
      cases d with
      | say s => simp only [encD] at hd ⊢; simp [hd, backP, encO]
      | whole n v => simp only [encD] at hd ⊢; simp [hd, backP, encO, encD]
      | drop n =>
        simp only [encD] at hd ⊢
        simp only [progDone] at hp
        cases hg : getB b n with
        | none => simp [hg] at hp
        | some v => simp [hd, backP, hg, encO, encD]
      | rename n m => simp only [encD] at hd ⊢; simp [hd, backP, encO, encD, atI2]
      | write n a s =>
        simp only [okD, Bool.and_eq_true, decide_eq_true_eq] at od
        have hs := textL_len od.2.2.2
        have hs' : s.length ≤ 1000000 := by omega
        simp only [encD] at hd ⊢
        simp [hd, backP, encO, encD, atI2, atI3, hs']
      | cut n a k =>
        simp only [okD, Bool.and_eq_true, decide_eq_true_eq] at od
        obtain ⟨v, v', hg, hv, _⟩ := progVal_some (n := n) (d := .cut n a k) hp
        cases v with
        | text l =>
          obtain ⟨l', e1, _⟩ := Option.map_eq_some_iff.mp hv
          simp only [lawText] at e1
          split at e1
          · rename_i hc
            have hl : l.length ≤ 1000000 := by have : l.length ≤ 200 := textL_len (okB_get ob hg).2; omega
            simp only [encD] at hd ⊢
            simp [hd, backP, hg, encO, encD, encV, atI1, atI2, atI3, hl, cut_mid l od.2.1 od.2.2 hc]
          · cases e1
        | row ws => cases hv
        | num x => cases hv
      | put n a w => simp only [encD] at hd ⊢; simp [hd, backP, encO, encD, atI2]
      | take n a =>
        simp only [okD, Bool.and_eq_true, decide_eq_true_eq] at od
        obtain ⟨v, v', hg, hv, _⟩ := progVal_some (n := n) (d := .take n a) hp
        cases v with
        | row ws =>
          obtain ⟨l', e1, _⟩ := Option.map_eq_some_iff.mp hv
          simp only [lawRow] at e1
          split at e1
          · rename_i hc
            obtain ⟨x, x1, _, x3⟩ := atI_nonneg ws od.2 hc
            simp only [encD] at hd ⊢
            simp [hd, backP, hg, encO, encD, encV, atI1, atI2, atI_map, x1, x3]
          · cases e1
        | text l => cases hv
        | num x => cases hv
      | move n i j => simp only [encD] at hd ⊢; simp [hd, backP, encO, encD, atI2, atI3]
      | set n x =>
        obtain ⟨v, v', hg, hv, _⟩ := progVal_some (n := n) (d := .set n x) hp
        cases v with
        | num k => simp only [encD] at hd ⊢; simp [hd, backP, hg, encO, encD, encV, atI1]
        | text l => cases hv
        | row ws => cases hv
      | add n x => simp only [encD] at hd ⊢; simp [hd, backP, encO, encD, atI2]
  · rw [if_neg od] at hd
    simp [hd, od]
end Dee

set_option maxRecDepth 100000
set_option maxHeartbeats 4000000
namespace Dee
open PySem PySem.Spec L2
/-! ### boards alike: by what stands by each name -/
def SimB (b c : Board) : Prop := ∀ n, getB b n = getB c n
theorem SimB.refl (b : Board) : SimB b b := fun _ => rfl
theorem SimB.symm {b c : Board} (h : SimB b c) : SimB c b := fun n => (h n).symm
theorem SimB.trans {a b c : Board} (h : SimB a b) (k : SimB b c) : SimB a c := fun n => (h n).trans (k n)
theorem mem_names {b : Board} {n : Str} : n ∈ b.map (·.1) ↔ (getB b n).isSome = true := by
  constructor
  · intro h
    cases hg : getB b n with
    | none => exact absurd h (not_mem_of hg)
    | some v => rfl
  · intro h
    obtain ⟨v, e⟩ := Option.isSome_iff_exists.mp h
    exact List.mem_map.mpr ⟨_, getB_mem e, rfl⟩
theorem nodup_le : ∀ {l m : List Str}, l.Nodup → (∀ x ∈ l, x ∈ m) → l.length ≤ m.length
  | [], _, _, _ => Nat.zero_le _
  | x :: l, m, h, hs => by
    rw [List.nodup_cons] at h
    have hx := hs x List.mem_cons_self
    have := nodup_le (l := l) (m := m.erase x) h.2 fun y hy => by
      have hne : y ≠ x := fun z => h.1 (z ▸ hy)
      exact (List.mem_erase_of_ne hne).mpr (hs y (List.mem_cons_of_mem _ hy))
    rw [List.length_erase_of_mem hx] at this
    have hpos : 0 < m.length := List.length_pos_of_mem hx
    simp only [List.length_cons]
    omega
theorem SimB.len {b c : Board} (h : SimB b c) (hb : okB b) (hc : okB c) : b.length = c.length := by
  have h1 := nodup_le hb.2.2 fun x hx => mem_names.mpr (by rw [← h x]; exact mem_names.mp hx)
  have h2 := nodup_le hc.2.2 fun x hx => mem_names.mpr (by rw [h x]; exact mem_names.mp hx)
  simp only [List.length_map] at h1 h2
  omega
theorem getB_delB (b : Board) (n m : Str) : getB (delB b n) m = if m = n then none else getB b m := by
  by_cases h : m = n
  · subst h; rw [if_pos rfl, getB_del]
  · rw [if_neg h, getB_del_ne h]
theorem okB_put {b : Board} (h : okB b) {n : Str} {v : Val} (hn : wordS n = true) (hv : okV v = true) (hl : (getB b n).isSome = true ∨ b.length + 1 ≤ 20) : okB (putB b n v) := by
  cases hg : getB b n with
  | none =>
    have e : putB b n v = b ++ [(n, v)] := by unfold putB; rw [hg]; rfl
    rw [e]
    exact okB_add h hn hv hg (hl.resolve_left (by rw [hg]; simp))
  | some u =>
    have e : putB b n v = b.map (fun p => if p.1 = n then (p.1, v) else p) := by unfold putB; rw [hg]; rfl
    rw [e]
    refine ⟨fun p hp => ?_, by rw [List.length_map]; exact h.2.1, ?_⟩
    · obtain ⟨q, hq, rfl⟩ := List.mem_map.mp hp
      by_cases hqn : q.1 = n
      · rw [if_pos hqn]; exact ⟨(h.1 q hq).1, hv⟩
      · rw [if_neg hqn]; exact h.1 q hq
    · rw [List.map_map]
      have : ((fun x : Str × Val => x.1) ∘ fun p : Str × Val => if p.1 = n then (p.1, v) else p) = fun p => p.1 := by
        funext p
        by_cases hp : p.1 = n <;> simp [hp]
      rw [this]; exact h.2.2
/-- what is made: alike, or nothing on both sides -/
def SimO : Option Board → Option Board → Prop
  | some b, some c => SimB b c
  | none, none => True
  | _, _ => False
theorem SimO.refl : ∀ o, SimO o o
  | some b => SimB.refl b
  | none => trivial
theorem SimO.symm : ∀ {o p}, SimO o p → SimO p o
  | some _, some _, h => SimB.symm h
  | none, none, _ => trivial
theorem SimO.trans : ∀ {o p q}, SimO o p → SimO p q → SimO o q
  | some _, some _, some _, h, k => SimB.trans h k
  | none, none, none, _, _ => trivial
theorem SimO.of_some {o p : Option Board} (h : SimO o p) {b : Board} (e : o = some b) : ∃ c, p = some c ∧ SimB b c := by
  subst e
  cases p with
  | none => exact h.elim
  | some c => exact ⟨c, rfl, h⟩
theorem SimO.of_none {o p : Option Board} (h : SimO o p) (e : o = none) : p = none := by
  subst e
  cases p with
  | none => rfl
  | some c => exact h.elim
theorem put_sim {b c : Board} (h : SimB b c) (n : Str) (v : Val) : SimB (putB b n v) (putB c n v) := fun m => by rw [getB_put, getB_put, h m]
theorem del_sim {b c : Board} (h : SimB b c) (n : Str) : SimB (delB b n) (delB c n) := fun m => by rw [getB_delB, getB_delB, h m]
theorem del_put (b : Board) (n : Str) (v : Val) : SimB (delB b n ++ [(n, v)]) (putB b n v) := fun m => by
  rw [getB_app, getB_put, getB_delB]
  by_cases h : m = n
  · subst h; simp [getB]
  · have h' : ¬ n = m := fun z => h z.symm
    simp [h, getB, h']
/-- the law's own deeds and the program's make the same -/
theorem law_prog (b : Board) (d : Deed) : SimO (lawDone b d) (progDone b d) := by
  have gen : ∀ n, SimO (match getB b n with
    | some v => (lawVal v d).map fun v' => delB b n ++ [(n, v')]
    | none => none) (progVal b n d) := fun n => by
    unfold progVal
    cases getB b n with
    | none => trivial
    | some v =>
      dsimp only
      cases lawVal v d with
      | none => trivial
      | some v' => exact del_put b n v'
  cases d with
  | say s => exact SimB.refl b
  | drop n => exact SimO.refl _
  | whole n v =>
    simp only [lawDone, progDone]
    by_cases hg : getB b n = none
    · have e : putB b n v = b ++ [(n, v)] := by unfold putB; rw [hg]; rfl
      by_cases hl : b.length < 20
      · rw [if_pos ⟨hg, hl⟩, if_pos ⟨hg, hl⟩, e]; exact SimB.refl _
      · rw [if_neg (fun z => hl z.2), if_neg (fun z => hl z.2)]; trivial
    · rw [if_neg (fun z => hg z.1), if_neg (fun z => hg z.1)]; trivial
  | rename n m =>
    simp only [lawDone, progDone]
    cases hg : getB b n with
    | none => trivial
    | some v =>
      dsimp only
      by_cases hm : getB b m = none
      · rw [if_pos hm, if_pos hm]
        have hne : m ≠ n := fun z => by rw [z, hg] at hm; cases hm
        have e : putB (delB b n) m v = delB b n ++ [(m, v)] := by unfold putB; rw [getB_del_ne hne, hm]; rfl
        rw [e]; exact SimB.refl _
      · rw [if_neg hm, if_neg hm]; trivial
  | write n a s => exact gen n
  | cut n a k => exact gen n
  | put n a w => exact gen n
  | take n a => exact gen n
  | move n i j => exact gen n
  | set n x => exact gen n
  | add n x => exact gen n
theorem prog_sim {b c : Board} (h : SimB b c) (ob : okB b) (oc : okB c) (d : Deed) : SimO (progDone b d) (progDone c d) := by
  have hl := h.len ob oc
  have gen : ∀ n, SimO (progVal b n d) (progVal c n d) := fun n => by
    unfold progVal
    rw [h n]
    cases getB c n with
    | none => trivial
    | some v =>
      dsimp only
      cases lawVal v d with
      | none => trivial
      | some v' => exact put_sim h n v'
  cases d with
  | say s => exact h
  | drop n =>
    simp only [progDone]
    rw [h n]
    split
    · exact del_sim h n
    · trivial
  | whole n v =>
    simp only [progDone]
    rw [h n, hl]
    split
    · exact put_sim h n v
    · trivial
  | rename n m =>
    simp only [progDone]
    rw [h n, h m]
    cases getB c n with
    | none => trivial
    | some v =>
      dsimp only
      split
      · exact put_sim (del_sim h n) m v
      · trivial
  | write n a s => exact gen n
  | cut n a k => exact gen n
  | put n a w => exact gen n
  | take n a => exact gen n
  | move n i j => exact gen n
  | set n x => exact gen n
  | add n x => exact gen n
theorem law_prog_sim {b c : Board} (h : SimB b c) (ob : okB b) (oc : okB c) (d : Deed) : SimO (lawDone b d) (progDone c d) := (law_prog b d).trans (prog_sim h ob oc d)
theorem law_sim {b c : Board} (h : SimB b c) (ob : okB b) (oc : okB c) (d : Deed) : SimO (lawDone b d) (lawDone c d) := (law_prog_sim h ob oc d).trans (law_prog c d).symm
theorem okB_prog {b b' : Board} {d : Deed} (ob : okB b) (od : okD d = true) (h : progDone b d = some b') : okB b' := by
  have gen : ∀ n, progVal b n d = some b' → okB b' := fun n h => by
    obtain ⟨v, v', hg, hv, rfl⟩ := progVal_some h
    obtain ⟨w1, w2⟩ := okB_get ob hg
    exact okB_put ob w1 (okV_law w2 od hv) (.inl (by rw [hg]; rfl))
  cases d with
  | say s => cases h; exact ob
  | whole n v =>
    simp only [progDone] at h
    simp only [okD, Bool.and_eq_true] at od
    split at h
    · rename_i hc; cases h; exact okB_put ob od.1 od.2 (.inr hc.2)
    · cases h
  | drop n =>
    simp only [progDone] at h
    split at h
    · cases h; exact okB_del ob n
    · cases h
  | rename n m =>
    simp only [progDone] at h
    simp only [okD, Bool.and_eq_true] at od
    cases hg : getB b n with
    | none => rw [hg] at h; cases h
    | some v =>
      rw [hg] at h
      dsimp only at h
      split at h
      · cases h
        exact okB_put (okB_del ob n) od.2 (okB_get ob hg).2 (.inr (by have := del_lt hg; have := ob.2.1; omega))
      · cases h
  | write n a s => exact gen n h
  | cut n a k => exact gen n h
  | put n a w => exact gen n h
  | take n a => exact gen n h
  | move n i j => exact gen n h
  | set n x => exact gen n h
  | add n x => exact gen n h
/-- boards alike are equal -/
theorem eqKs_sim {S : Store} {b : Board} : ∀ (c : Board), (∀ p ∈ c, getB b p.1 = some p.2) → eqKs (eqD S 20) (encB b) (encB c) = some true := eqKs_same
theorem eq_sim {S : Store} {b c : Board} (h : SimB b c) (ob : okB b) (oc : okB c) : eqTop S (.dct (encB b)) (.dct (encB c)) = some true := by
  have hl := h.len ob oc
  have k1 : eqKs (eqD S 20) (encB b) (encB c) = some true := eqKs_same c fun p hp => by rw [h]; exact getB_of oc.2.2 hp
  have k2 : eqKs (eqD S 20) (encB c) (encB b) = some true := eqKs_same b fun p hp => by rw [← h]; exact getB_of ob.2.2 hp
  show (if (encB b).length = (encB c).length then _ else some false) = _
  rw [if_pos (by rw [encB_len, encB_len, hl])]
  first
    | exact k1
    | exact k2
end Dee

set_option maxRecDepth 100000
set_option maxHeartbeats 4000000
namespace Dee
open PySem PySem.Spec L2
/-! ### what takes a deed back, takes it back -/
theorem val_back {b b' : Board} {n : Str} {d e : Deed} (h : progVal b n d = some b') (k : ∀ v v', getB b n = some v → lawVal v d = some v' → lawVal v' e = some v) : SimO (progVal b' n e) (some b) := by
  obtain ⟨v, v', hg, hv, rfl⟩ := progVal_some h
  have e2 := k v v' hg hv
  unfold progVal
  rw [getB_put, if_pos rfl]
  dsimp only
  rw [e2]
  intro m
  rw [getB_put, getB_put]
  by_cases hm : m = n
  · subst hm; rw [if_pos rfl, hg]
  · rw [if_neg hm, if_neg hm]
theorem text_write_back {l l' s : List Nat} {n : Str} {a : Int} (ha : 0 ≤ a) (h : lawText l (.write n a s) = some l') : lawText l' (.cut n a s.length) = some l := by
  simp only [lawText] at h ⊢
  split at h
  · rename_i hc
    cases h
    have lt : (l.take a.toNat).length = a.toNat := by rw [List.length_take]; omega
    have e1 : (a + (s.length : Int)).toNat = a.toNat + s.length := by omega
    rw [if_pos (by rw [List.length_append, List.length_append, lt, List.length_drop]; omega)]
    congr 1
    have t1 : (l.take a.toNat ++ s ++ l.drop a.toNat).take a.toNat = l.take a.toNat := by
      rw [List.append_assoc, List.take_append_of_le_length (by omega), List.take_take, Nat.min_self]
    have t2 : (l.take a.toNat ++ s ++ l.drop a.toNat).drop (a + (s.length : Int)).toNat = l.drop a.toNat := by
      rw [e1]
      have : (l.take a.toNat ++ s).length = a.toNat + s.length := by rw [List.length_append, lt]
      rw [← this, List.drop_left]
    rw [t1, t2, List.take_append_drop]
  · cases h
theorem text_cut_back {l l' : List Nat} {n : Str} {a k : Int} (ha : 0 ≤ a) (hk : 0 < k) (hl : l.length ≤ 200) (h : lawText l (.cut n a k) = some l') : lawText l' (.write n a ((l.drop a.toNat).take k.toNat)) = some l := by
  simp only [lawText] at h ⊢
  split at h
  · rename_i hc
    cases h
    have lt : (l.take a.toNat).length = a.toNat := by rw [List.length_take]; omega
    have e1 : (a + k).toNat = a.toNat + k.toNat := by omega
    have lm : ((l.drop a.toNat).take k.toNat).length = k.toNat := by rw [List.length_take, List.length_drop]; omega
    have ll : (l.take a.toNat ++ l.drop (a + k).toNat).length = l.length - k.toNat := by rw [List.length_append, lt, List.length_drop]; omega
    rw [if_pos (by rw [ll, lm]; omega)]
    congr 1
    have t1 : (l.take a.toNat ++ l.drop (a + k).toNat).take a.toNat = l.take a.toNat := by
      rw [List.take_append_of_le_length (by omega), List.take_take, Nat.min_self]
    have t2 : (l.take a.toNat ++ l.drop (a + k).toNat).drop a.toNat = l.drop (a + k).toNat := by
      have := @List.drop_left _ (l.take a.toNat) (l.drop (a + k).toNat)
      rw [lt] at this; exact this
    rw [t1, t2, e1, List.append_assoc, ← List.drop_drop, List.take_append_drop, List.take_append_drop]
  · cases h
theorem row_put_back {ws ws' : List Str} {n w : Str} {a : Int} (ha : 0 ≤ a) (h : lawRow ws (.put n a w) = some ws') : lawRow ws' (.take n a) = some ws := by
  simp only [lawRow] at h ⊢
  split at h
  · rename_i hc
    cases h
    have lt : (ws.take a.toNat).length = a.toNat := by rw [List.length_take]; omega
    rw [if_pos (by rw [List.length_append, lt, List.length_cons, List.length_drop]; omega)]
    congr 1
    have e1 : (a + 1).toNat = a.toNat + 1 := by omega
    obtain ⟨m1, _⟩ := move_at (k := 0) ws w (j := a.toNat) (by omega)
    rw [e1]
    have : ws.take a.toNat ++ w :: ws.drop a.toNat = ws.take a.toNat ++ [w] ++ ws.drop a.toNat := by simp
    rw [this]
    exact m1
  · cases h
theorem cut_put {α : Type} (l : List α) {i : Nat} (h : i < l.length) : (l.take i ++ l.drop (i + 1)).take i ++ [l[i]] ++ (l.take i ++ l.drop (i + 1)).drop i = l := by
  have lt : (l.take i).length = i := by rw [List.length_take]; omega
  rw [List.take_append_of_le_length (by omega), List.take_take, Nat.min_self]
  have t2 : (l.take i ++ l.drop (i + 1)).drop i = l.drop (i + 1) := by
    have := @List.drop_left _ (l.take i) (l.drop (i + 1))
    rw [lt] at this; exact this
  rw [t2, List.append_assoc]
  have : [l[i]] ++ l.drop (i + 1) = l.drop i := by rw [List.drop_eq_getElem_cons h]; rfl
  rw [this, List.take_append_drop]
theorem row_take_back {ws ws' : List Str} {n w : Str} {a : Int} (ha : 0 ≤ a) (hl : ws.length ≤ 40) (h : lawRow ws (.take n a) = some ws') (hw : ws[a.toNat]? = some w) : lawRow ws' (.put n a w) = some ws := by
  simp only [lawRow] at h ⊢
  split at h
  · rename_i hc
    cases h
    have hi : a.toNat < ws.length := by omega
    have e1 : (a + 1).toNat = a.toNat + 1 := by omega
    have ll : (ws.take a.toNat ++ ws.drop (a + 1).toNat).length = ws.length - 1 := by rw [List.length_append, List.length_take, List.length_drop]; omega
    rw [if_pos (by rw [ll]; omega)]
    congr 1
    have ew : ws[a.toNat] = w := by rw [List.getElem?_eq_getElem hi] at hw; exact Option.some.inj hw
    have := cut_put ws hi
    rw [ew] at this
    rw [e1]
    conv => rhs; rw [← this]
    simp
  · cases h
theorem row_move_back {ws ws' : List Str} {n : Str} {i j : Int} (hi : 0 ≤ i) (hj : 0 ≤ j) (h : lawRow ws (.move n i j) = some ws') : lawRow ws' (.move n j i) = some ws := by
  simp only [lawRow] at h ⊢
  split at h
  · rename_i hc
    cases h
    have li : i.toNat < ws.length := by omega
    have one : (ws.drop i.toNat).take 1 = [ws[i.toNat]] := by rw [List.drop_eq_getElem_cons li]; rfl
    have ei : (i + 1).toNat = i.toNat + 1 := by omega
    have ej : (j + 1).toNat = j.toNat + 1 := by omega
    have ll : (ws.take i.toNat ++ ws.drop (i + 1).toNat).length = ws.length - 1 := by rw [List.length_append, List.length_take, List.length_drop]; omega
    rw [one]
    obtain ⟨m1, m2⟩ := move_at (k := 0) (ws.take i.toNat ++ ws.drop (i + 1).toNat) ws[i.toNat] (j := j.toNat) (by rw [ll]; omega)
    have tot : ((ws.take i.toNat ++ ws.drop (i + 1).toNat).take j.toNat ++ [ws[i.toNat]] ++ (ws.take i.toNat ++ ws.drop (i + 1).toNat).drop j.toNat).length = ws.length := by
      rw [List.length_append, List.length_append, List.length_take, List.length_drop, ll, List.length_singleton]; omega
    rw [if_pos (by rw [tot]; omega), ej, m1, m2, ei, cut_put ws li]
  · cases h
theorem back_ok {b b' : Board} {d e : Deed} (ob : okB b) (od : okD d = true) (h : progDone b d = some b') (hb : backP b d = some e) : okD e = true ∧ (∀ s, e ≠ .say s) ∧ SimO (progDone b' e) (some b) := by
  have lift : ∀ {n v v'} , (lawVal v d = some v') → getB b n = some v → okV v = true ∧ wordS n = true := fun _ hg => ⟨(okB_get ob hg).2, (okB_get ob hg).1⟩
  cases d with
  | say s => cases hb
  | whole n v =>
    cases hb
    simp only [okD, Bool.and_eq_true] at od
    refine ⟨od.1, (fun s z => nomatch z), ?_⟩
    simp only [progDone] at h
    split at h
    · rename_i hc
      cases h
      show SimO (if (getB (putB b n v) n).isSome = true then some (delB (putB b n v) n) else none) _
      rw [getB_put, if_pos rfl, if_pos (show (some v).isSome = true from rfl)]
      intro m
      rw [getB_delB, getB_put]
      by_cases hm : m = n
      · subst hm; rw [if_pos rfl, hc.1]
      · rw [if_neg hm, if_neg hm]
    · cases h
  | drop n =>
    simp only [progDone] at h
    simp only [backP] at hb
    cases hg : getB b n with
    | none => rw [hg] at hb; cases hb
    | some v =>
      rw [hg] at h hb
      cases hb
      cases h
      obtain ⟨w1, w2⟩ := okB_get ob hg
      refine ⟨by simp [okD, w1, w2], (fun s z => nomatch z), ?_⟩
      show SimO (if getB (delB b n) n = none ∧ (delB b n).length < 20 then some (putB (delB b n) n v) else none) _
      rw [if_pos ⟨getB_del b n, by have := del_lt hg; have := ob.2.1; omega⟩]
      intro m
      rw [getB_put, getB_delB]
      by_cases hm : m = n
      · subst hm; rw [if_pos rfl, hg]
      · rw [if_neg hm, if_neg hm]
  | rename n m =>
    cases hb
    simp only [okD, Bool.and_eq_true] at od
    refine ⟨by simp [okD, od.1, od.2], (fun s z => nomatch z), ?_⟩
    simp only [progDone] at h
    cases hg : getB b n with
    | none => rw [hg] at h; cases h
    | some v =>
      rw [hg] at h
      dsimp only at h
      split at h
      · rename_i hm
        cases h
        have hne : n ≠ m := fun z => by rw [← z, hg] at hm; cases hm
        show SimO (match getB (putB (delB b n) m v) m with
          | some u => if getB (putB (delB b n) m v) n = none then some (putB (delB (putB (delB b n) m v) m) n u) else none
          | none => none) _
        rw [getB_put, if_pos rfl, getB_put, if_neg hne, getB_del]
        dsimp only
        rw [if_pos rfl]
        intro x
        rw [getB_put, getB_delB, getB_put, getB_delB]
        by_cases hx : x = n
        · subst hx; rw [if_pos rfl, hg]
        · rw [if_neg hx]
          by_cases hxm : x = m
          · subst hxm; rw [if_pos rfl, hm]
          · rw [if_neg hxm, if_neg hxm, if_neg hx]
      · cases h
  | write n a s =>
    cases hb
    simp only [okD, Bool.and_eq_true, decide_eq_true_eq] at od
    have hp : 0 < s.length := List.length_pos_iff.mpr od.2.2.1
    refine ⟨by simp [okD, od.1, od.2.1]; omega, (fun s z => nomatch z), ?_⟩
    refine val_back (n := n) h fun v v' hg hv => ?_
    cases v with
    | text l =>
      obtain ⟨l', e1, rfl⟩ := Option.map_eq_some_iff.mp hv
      exact Option.map_eq_some_iff.mpr ⟨l, text_write_back od.2.1 e1, rfl⟩
    | row ws => cases hv
    | num k => cases hv
  | cut n a k =>
    simp only [okD, Bool.and_eq_true, decide_eq_true_eq] at od
    obtain ⟨v, v', hg, hv, _⟩ := progVal_some (n := n) h
    cases v with
    | text l =>
      simp only [backP, hg] at hb
      cases hb
      have ol : textL l = true := (okB_get ob hg).2
      have tl := textL_parts.mp ol
      obtain ⟨l', e1, _⟩ := Option.map_eq_some_iff.mp hv
      have hc : a + k ≤ l.length := by
        simp only [lawText] at e1
        split at e1
        · assumption
        · cases e1
      have lm : ((l.drop a.toNat).take k.toNat).length = k.toNat := by rw [List.length_take, List.length_drop]; omega
      refine ⟨?_, (fun s z => nomatch z), ?_⟩
      · have hne : (l.drop a.toNat).take k.toNat ≠ [] := fun z => by have := congrArg List.length z; rw [lm] at this; simp at this; omega
        have ht : textL ((l.drop a.toNat).take k.toNat) = true := textL_parts.mpr ⟨by rw [lm]; omega, fun c hc => tl.2 c (List.mem_of_mem_drop (List.mem_of_mem_take hc))⟩
        simp only [okD, od.1, od.2.1, decide_true, Bool.true_and, ht, Bool.and_true, decide_eq_true_eq]
        exact hne
      · refine val_back (n := n) h fun u u' hg' hv' => ?_
        rw [hg] at hg'; cases hg'
        obtain ⟨l'', e2, rfl⟩ := Option.map_eq_some_iff.mp hv'
        exact Option.map_eq_some_iff.mpr ⟨l, text_cut_back od.2.1 od.2.2 tl.1 e2, rfl⟩
    | row ws => cases hv
    | num x => cases hv
  | put n a w =>
    cases hb
    simp only [okD, Bool.and_eq_true, decide_eq_true_eq] at od
    refine ⟨by simp [okD, od.1, od.2.1], (fun s z => nomatch z), ?_⟩
    refine val_back (n := n) h fun v v' hg hv => ?_
    cases v with
    | row ws =>
      obtain ⟨l', e1, rfl⟩ := Option.map_eq_some_iff.mp hv
      exact Option.map_eq_some_iff.mpr ⟨ws, row_put_back od.2.1 e1, rfl⟩
    | text l => cases hv
    | num k => cases hv
  | take n a =>
    simp only [okD, Bool.and_eq_true, decide_eq_true_eq] at od
    obtain ⟨v, v', hg, hv, _⟩ := progVal_some (n := n) h
    cases v with
    | row ws =>
      have oo := (okB_get ob hg).2
      simp only [okV, Bool.and_eq_true, decide_eq_true_eq, List.all_eq_true] at oo
      simp only [backP, hg] at hb
      cases hw : ws[a.toNat]? with
      | none => rw [hw] at hb; cases hb
      | some w =>
        rw [hw] at hb
        cases hb
        refine ⟨by simp [okD, od.1, od.2, oo.2 w (List.mem_of_getElem? hw)], (fun s z => nomatch z), ?_⟩
        refine val_back (n := n) h fun u u' hg' hv' => ?_
        rw [hg] at hg'; cases hg'
        obtain ⟨l'', e2, rfl⟩ := Option.map_eq_some_iff.mp hv'
        exact Option.map_eq_some_iff.mpr ⟨ws, row_take_back od.2 oo.1 e2 hw, rfl⟩
    | text l => cases hv
    | num x => cases hv
  | move n i j =>
    cases hb
    simp only [okD, Bool.and_eq_true, decide_eq_true_eq] at od
    refine ⟨by simp [okD, od.1, od.2.1, od.2.2], (fun s z => nomatch z), ?_⟩
    refine val_back (n := n) h fun v v' hg hv => ?_
    cases v with
    | row ws =>
      obtain ⟨l', e1, rfl⟩ := Option.map_eq_some_iff.mp hv
      exact Option.map_eq_some_iff.mpr ⟨ws, row_move_back od.2.1 od.2.2 e1, rfl⟩
    | text l => cases hv
    | num k => cases hv
  | set n x =>
    simp only [okD, Bool.and_eq_true, decide_eq_true_eq] at od
    obtain ⟨v, v', hg, hv, _⟩ := progVal_some (n := n) h
    cases v with
    | num k =>
      have oo := (okB_get ob hg).2
      simp only [okV, decide_eq_true_eq] at oo
      simp only [backP, hg] at hb
      cases hb
      refine ⟨by simp [okD, od.1, oo], (fun s z => nomatch z), ?_⟩
      refine val_back (n := n) h fun u u' hg' hv' => ?_
      rw [hg] at hg'; cases hg'
      obtain ⟨l'', e2, rfl⟩ := Option.map_eq_some_iff.mp hv'
      exact Option.map_eq_some_iff.mpr ⟨k, by simp only [lawNum]; rw [if_pos oo], rfl⟩
    | text l => cases hv
    | row x => cases hv
  | add n x =>
    cases hb
    simp only [okD, Bool.and_eq_true, decide_eq_true_eq] at od
    have ax : absI (0 - x) = absI x := by unfold absI; split <;> split <;> omega
    refine ⟨by simp only [okD, od.1, Bool.true_and, decide_eq_true_eq, ax]; exact od.2, (fun s z => nomatch z), ?_⟩
    refine val_back (n := n) h fun v v' hg hv => ?_
    cases v with
    | num k =>
      have oo := (okB_get ob hg).2
      simp only [okV, decide_eq_true_eq] at oo
      obtain ⟨l', e1, rfl⟩ := Option.map_eq_some_iff.mp hv
      simp only [lawNum] at e1
      split at e1
      · cases e1
        have e : k + x + (0 - x) = k := by omega
        exact Option.map_eq_some_iff.mpr ⟨k, by simp only [lawNum, e]; rw [if_pos oo], rfl⟩
      · cases e1
    | text l => cases hv
    | row ws => cases hv
theorem back_none {b b' : Board} {d : Deed} (od : okD d = true) (h : progDone b d = some b') : backP b d = none ↔ ∃ s, d = .say s := by
  constructor
  · intro hb
    cases d with
    | say s => exact ⟨s, rfl⟩
    | whole n v => cases hb
    | drop n =>
      simp only [backP] at hb
      simp only [progDone] at h
      cases hg : getB b n with
      | none => rw [hg] at h; cases h
      | some v => rw [hg] at hb; cases hb
    | rename n m => cases hb
    | write n a s => cases hb
    | cut n a k =>
      obtain ⟨v, v', hg, hv, _⟩ := progVal_some (n := n) h
      cases v with
      | text l => simp only [backP, hg] at hb; cases hb
      | row ws => cases hv
      | num x => cases hv
    | put n a w => cases hb
    | take n a =>
      simp only [okD, Bool.and_eq_true, decide_eq_true_eq] at od
      obtain ⟨v, v', hg, hv, _⟩ := progVal_some (n := n) h
      cases v with
      | row ws =>
        obtain ⟨l', e1, _⟩ := Option.map_eq_some_iff.mp hv
        simp only [lawRow] at e1
        split at e1
        · rename_i hc
          have hi : a.toNat < ws.length := by omega
          simp only [backP, hg, List.getElem?_eq_getElem hi] at hb
          cases hb
        · cases e1
      | text l => cases hv
      | num x => cases hv
    | move n i j => cases hb
    | set n x =>
      obtain ⟨v, v', hg, hv, _⟩ := progVal_some (n := n) h
      cases v with
      | num k => simp only [backP, hg] at hb; cases hb
      | text l => cases hv
      | row ws => cases hv
    | add n x => cases hb
  · rintro ⟨s, rfl⟩; rfl
theorem back_sim {b c : Board} (h : SimB b c) (d : Deed) : backP b d = backP c d := by
  cases d <;> simp only [backP, h _]
end Dee

set_option maxRecDepth 100000
set_option maxHeartbeats 4000000
namespace Dee
open PySem PySem.Spec L2
/-! ### refusals told -/
def tagX (c : Str) : Option Str := ([("BadDeed", "deed"), ("BadBoard", "board"), ("BadNumber", "number"), ("Stuck", "stuck"), ("Open", "open"), ("Clash", "clash")] : List (Str × Str)).lookup c
def refD (t : Str) : D := .tup [.str "refused", .str t]
@[simp] theorem mulsimp_isK (S : Store) (d : List D) : isK .lst S (.lst d) = true := rfl
theorem run_refusal {c t : Str} (h : tagX c = some t) (fs : List (Str × D)) (S : Store) : g__law_refusal [.exc c fs] S = .ok (refD t) S := by
  rw [call__law_refusal]
  unfold m__law_refusal
  have hc : c = "BadDeed" ∨ c = "BadBoard" ∨ c = "BadNumber" ∨ c = "Stuck" ∨ c = "Open" ∨ c = "Clash" := by
    unfold tagX at h
    simp only [List.lookup_cons, List.lookup_nil] at h
    by_cases h1 : c = "BadDeed"; · exact .inl h1
    by_cases h2 : c = "BadBoard"; · exact .inr (.inl h2)
    by_cases h3 : c = "BadNumber"; · exact .inr (.inr (.inl h3))
    by_cases h4 : c = "Stuck"; · exact .inr (.inr (.inr (.inl h4)))
    by_cases h5 : c = "Open"; · exact .inr (.inr (.inr (.inr (.inl h5))))
    by_cases h6 : c = "Clash"; · exact .inr (.inr (.inr (.inr (.inr h6))))
    have e1 := beq_eq_false_iff_ne.mpr h1
    have e2 := beq_eq_false_iff_ne.mpr h2
    have e3 := beq_eq_false_iff_ne.mpr h3
    have e4 := beq_eq_false_iff_ne.mpr h4
    have e5 := beq_eq_false_iff_ne.mpr h5
    have e6 := beq_eq_false_iff_ne.mpr h6
    rw [e1, e2, e3, e4, e5, e6] at h
    cases h
  rcases hc with rfl | rfl | rfl | rfl | rfl | rfl <;>
    (unfold tagX at h; simp [List.lookup_cons] at h; subst h
     simp [refD, isND, tyD, is_BadDeed, is_BadBoard, is_BadNumber, is_Stuck, is_Open, is_Clash, is_ValueError, isTab, List.lookup_cons, countD, indexD, flDs, flD, eqV, atI, ixN, List.findIdx?, List.findIdx?.go])
end Dee

set_option maxRecDepth 100000
set_option maxHeartbeats 4000000
namespace Dee
open PySem PySem.Spec L2
/-! ### a walk over things -/
theorem forN_list {it : ItD} {g : MG} {b : MS} {α : Type} {l : List α} {f : α → D} (Inv : Nat → Dn → Store → Prop) (hn : ∀ j δ S, Inv j δ S → nxtD S j it = some ((l.map f)[j]?))
    (hs : ∀ i x δ S, l[i]? = some x → Inv i δ S → ∃ δ1, g (f x) δ S = some δ1 ∧ ∃ δ2 S2, b δ1 S = .nx δ2 S2 ∧ Inv (i + 1) δ2 S2) :
    ∀ (k i : Nat) (δ : Dn) (S : Store), i + k = l.length → Inv i δ S → ∃ δ' S', forN it g b (k + 1) i δ S = .nx δ' S' ∧ Inv l.length δ' S'
  | 0, i, δ, S, e, h => by
    have : i = l.length := by omega
    subst this
    refine ⟨δ, S, ?_, h⟩
    unfold forN
    rw [hn _ δ S h, List.getElem?_eq_none (by simp)]
  | k + 1, i, δ, S, e, h => by
    have hi : i < l.length := by omega
    obtain ⟨δ1, e1, δ2, S2, e2, h2⟩ := hs i l[i] δ S (List.getElem?_eq_getElem hi) h
    obtain ⟨δ', S', e3, h3⟩ := forN_list Inv hn hs k (i + 1) δ2 S2 (by omega) h2
    refine ⟨δ', S', ?_, h3⟩
    unfold forN
    rw [hn _ δ S h, List.getElem?_map, List.getElem?_eq_getElem hi]
    simp only [Option.map_some, e1, e2]
    exact e3
theorem run_look_board (b : Board) (ob : okB b) (S : Store) : g_look_board [.dct (encB b)] S = .ok .non S := by
  rw [call_look_board]
  unfold m_look_board
  have hl : ¬ 20 < b.length := by have := ob.2.1; omega
  obtain ⟨δ', S', e, rfl, rfl⟩ := forN_list (it := .at_ (.keys (.dct (encB b)))) (g := gVar 1) (b := mIfS (tOrD (tNotD (tTru (mCall g_is_word (aCons (mVar 1) (aNil))))) (tNotD (tTru (mCall g_is_value (aCons (mBin ixD (mVar 0) (mVar 1)) (aNil)))))) (mRaise "BadBoard") (mNil)) (l := b) (f := fun p => D.str p.1)
    (fun i δ S' => S' = S ∧ δ = [some (.dct (encB b)), if i = 0 then none else (b[i - 1]?).map fun p => .str p.1]) (fun j δ S' _ => by
      rw [nxt_keys]
      congr 2
      simp [encB, kD])
    (by
      rintro i p δ S' hp ⟨rfl, rfl⟩
      have hm := List.mem_of_getElem? hp
      obtain ⟨w1, w2⟩ := ob.1 p hm
      have hw := run_wordS p.1 S' (by have := wordS_len w1; omega)
      have hv := run_is_value p.2 S' (okV_fit w2)
      have hg := getB_of ob.2.2 hm
      exact ⟨_, rfl, [some (.dct (encB b)), some (.str p.1)], S', by simp [hw, w1, hg, hv, w2], rfl, by simp [hp]⟩) b.length 0 _ S (by omega) ⟨rfl, rfl⟩
  simp [encB_len, hl, cnt_keys] at e ⊢
  simp [e]
/-! ### a board drawn -/
def names4 : List Str := [Str.ofString "a", Str.ofString "b", Str.ofString "c", Str.ofString "d"]
theorem words4 : ∀ n ∈ names4, wordS n = true := by decide +kernel
theorem nodup4 : names4.Nodup := by decide +kernel
theorem run_board (ns : List Int) (R : Store) {t : Nat} (ht : t < 600000) : ∃ b t', okB b ∧ b.length ≤ 4 ∧ (∀ p ∈ b, p.1 ∈ names4) ∧ t ≤ t' ∧ t' ≤ t + 100 ∧ g__law_board [sc ns, .loc 0] (tw t :: R) = .ok (.dct (encB b)) (tw t' :: (R ++ [.dead])) := by
  obtain ⟨δ', S', e, b, t', v, ob, hbl, hbn, l1, l2, rfl, rfl⟩ := forN_list (it := .at_ (.lst [.str (Str.ofString "a"), .str (Str.ofString "b"), .str (Str.ofString "c"), .str (Str.ofString "d")])) (g := gVar 3) (b := (mIfS (tVal (mBin gtD (mCall g__law_draw (aCons (mVar 0) (aCons (mVar 1) (aCons (mC (.int 4)) (aNil))))) (mC (.int 0)))) (mPut (mCall g__law_value (aCons (mVar 0) (aCons (mVar 1) (aNil)))) (mVar 2) (mVar 3)) (mNil))) (l := names4) (f := D.str)
    (fun i δ S' => ∃ b t' v, okB b ∧ b.length ≤ i ∧ (∀ p ∈ b, p.1 ∈ names4.take i) ∧ t ≤ t' ∧ t' ≤ t + 21 * i ∧ δ = [some (sc ns), some (.loc 0), some (.loc (R.length + 1)), v] ∧ S' = tw t' :: (R ++ [.dct (encB b)])) (fun j δ S' _ => rfl)
    (by
      rintro i n δ S' hn ⟨b, t', v, ob, hbl, hbn, l1, l2, rfl, rfl⟩
      have hi : i < 4 := (List.getElem?_eq_some_iff.mp hn).1
      obtain ⟨k, k0, k1, hk⟩ := run_draw ns (R ++ [.dct (encB b)]) (t := t') (m := 4) (by omega) (by decide)
      refine ⟨_, rfl, ?_⟩
      by_cases h0 : 0 < k
      · obtain ⟨x, t2, ox, fx, m1, m2, hx⟩ := run_value ns (R ++ [.dct (encB b)]) (t := t' + 1) (by omega)
        have hg : getB b n = none := by
          cases q : getB b n with
          | none => rfl
          | some y =>
            exfalso
            have h1 := hbn _ (getB_mem q)
            obtain ⟨j, hj, ej⟩ := List.mem_iff_getElem.mp h1
            rw [List.getElem_take] at ej
            have hjl : j < i := by rw [List.length_take] at hj; omega
            have h2 := List.getElem?_eq_getElem (l := names4) (i := j) (by show j < 4; omega)
            rw [ej] at h2
            have := (List.getElem?_inj (l := names4) (by show j < 4; omega) nodup4).mp (h2.trans hn.symm)
            omega
        have e1 : (tw t2 :: (R ++ [Cell.dct (encB b)]))[R.length + 1]? = some (.dct (encB b)) := by simp
        have e2 : (tw t2 :: (R ++ [Cell.dct (encB b)])).set (R.length + 1) (.dct (encB (b ++ [(n, x)]))) = tw t2 :: (R ++ [.dct (encB (b ++ [(n, x)]))]) := by simp [List.set_append_right]
        have hl5 : (encB b).length < 1000000 := by rw [encB_len]; omega
        refine ⟨_, _, ?_, b ++ [(n, x)], t2, some (.str n), okB_add ob (words4 n (List.mem_of_getElem? hn)) ox hg (by omega), by rw [List.length_append, List.length_singleton]; omega, fun p hp => ?_, by omega, by omega, rfl, rfl⟩
        · simp [hk, h0, hx, cellK, e1, e2, keyD, hl5, put_enc hg]
        · rcases List.mem_append.mp hp with hp | hp
          · have := hbn p hp
            obtain ⟨j, hj, ej⟩ := List.mem_iff_getElem.mp this
            rw [List.getElem_take] at ej
            exact List.mem_iff_getElem.mpr ⟨j, by rw [List.length_take] at hj ⊢; omega, by rw [List.getElem_take]; exact ej⟩
          · rw [List.mem_singleton.mp hp]
            obtain ⟨hl, e⟩ := List.getElem?_eq_some_iff.mp hn
            exact List.mem_iff_getElem.mpr ⟨i, by rw [List.length_take]; show i < min (i + 1) 4; omega, by rw [List.getElem_take]; exact e⟩
      · refine ⟨_, _, ?_, b, t' + 1, some (.str n), ob, by omega, fun p hp => ?_, by omega, by omega, rfl, rfl⟩
        · have : ¬ (0 : Int) < k := h0
          simp [hk, this]
        · have := hbn p hp
          obtain ⟨j, hj, ej⟩ := List.mem_iff_getElem.mp this
          rw [List.getElem_take] at ej
          exact List.mem_iff_getElem.mpr ⟨j, by rw [List.length_take] at hj ⊢; omega, by rw [List.getElem_take]; exact ej⟩) 4 0 [some (sc ns), some (.loc 0), some (.loc (R.length + 1)), none] (tw t :: (R ++ [.dct []])) rfl ⟨[], t, none, ⟨by simp, by simp, by simp⟩, by simp, by simp, by omega, by omega, rfl, rfl⟩
  refine ⟨b, t', ob, hbl, fun p hp => List.mem_of_mem_take (hbn p hp), l1, by have : names4.length = 4 := rfl; omega, ?_⟩
  rw [call__law_board]
  unfold m__law_board
  have e' := e
  simp [cntD] at e' ⊢
  rw [e']
  have f := frz_found (tw t' :: R) (encB b)
  simp at f
  simp [f]
end Dee

set_option maxRecDepth 100000
set_option maxHeartbeats 4000000
namespace Dee
open PySem PySem.Spec L2
/-! ### two deeds, told the other way about -/
def touch : Deed → List Str
  | .say _ => []
  | .rename n m => [n, m]
  | d => [nameD d]
/-- where a deed stands, how much it puts in, takes out -/
def spanD : Deed → Int × Int × Int
  | .write _ a s => (a, s.length, 0)
  | .cut _ a k => (a, 0, k)
  | .put _ a _ => (a, 1, 0)
  | .take _ a => (a, 0, 1)
  | _ => (0, 0, 0)
def movedD : Deed → Int → Deed
  | .write n a s, x => .write n (a + x) s
  | .cut n a k, x => .cut n (a + x) k
  | .put n a w, x => .put n (a + x) w
  | .take n a, x => .take n (a + x)
  | d, _ => d
def isPl : Deed → Bool
  | .write _ _ _ => true | .cut _ _ _ => true | .put _ _ _ => true | .take _ _ => true | _ => false
def isTx : Deed → Bool
  | .write _ _ _ => true | .cut _ _ _ => true | _ => false
def isRw : Deed → Bool
  | .put _ _ _ => true | .take _ _ => true | _ => false
def isAdd : Deed → Bool
  | .add _ _ => true | _ => false
def isSay : Deed → Bool
  | .say _ => true | _ => false
def pastD (a b : Deed) : Option (Deed × Deed) :=
  if (spanD a).1 + (spanD a).2.1 ≤ (spanD b).1 then some (movedD b ((spanD a).2.2 - (spanD a).2.1), a)
  else if (spanD b).1 + (spanD b).2.2 ≤ (spanD a).1 then some (b, movedD a ((spanD b).2.1 - (spanD b).2.2)) else none
def apart (a b : Deed) : Bool := ((touch a).filter fun n => decide (n ∈ touch b)).isEmpty
def swapD (a b : Deed) : Option (Deed × Deed) :=
  if isSay a = true ∧ isSay b = true then none
  else if apart a b = true then some (b, a)
  else if isAdd a = true ∧ isAdd b = true then some (b, a)
  else if (isTx a = true ∧ isTx b = true) ∨ (isRw a = true ∧ isRw b = true) then pastD a b
  else none
def encP : Option (Deed × Deed) → D
  | some (a, b) => .tup [encD a, encD b]
  | none => .non
theorem run_names_of (d : Deed) (S : Store) : g_names_of [encD d] S = .ok (.lst ((touch d).map .str)) S := by
  rw [call_names_of]; unfold m_names_of
  cases d <;> simp [encD, touch, nameD, atI0, atI1, atI2]
theorem run_span (d : Deed) (S : Store) (h : isPl d = true) (f : fitD d) : g_span [encD d] S = .ok (.tup [.int (spanD d).1, .int (spanD d).2.1, .int (spanD d).2.2]) S := by
  rw [call_span]; unfold m_span
  cases d <;> first | (cases h; done) | skip
  · have hs := (show _ ∧ _ from f).2
    simp [encD, spanD, atI0, atI1, atI2, atI3, hs]
  · simp [encD, spanD, atI0, atI1, atI2, atI3]
  · simp [encD, spanD, atI0, atI1, atI2, atI3]
  · simp [encD, spanD, atI0, atI1, atI2, atI3]
theorem cut3 {α : Type} (a b c : α) (l : List α) : cutL (a :: b :: c :: l) (some 3) none = l := by
  rw [cut_from _ (by decide)]; rfl
theorem run_moved (d : Deed) (x : Int) (S : Store) (h : isPl d = true) : g_moved [encD d, .int x] S = .ok (encD (movedD d x)) S := by
  rw [call_moved]; unfold m_moved
  cases d <;> first | (cases h; done) | skip
  all_goals simp [encD, movedD, atI2, cut3]
theorem run_past (a b : Deed) (S : Store) (ha : isPl a = true) (hb : isPl b = true) (fa : fitD a) (fb : fitD b) : g_past [encD a, encD b] S = .ok (encP (pastD a b)) S := by
  rw [call_past]; unfold m_past
  have e1 := run_span a S ha fa
  have e2 := run_span b S hb fb
  unfold pastD
  by_cases h1 : (spanD a).1 + (spanD a).2.1 ≤ (spanD b).1
  · have e3 := run_moved b ((spanD a).2.2 - (spanD a).2.1) S hb
    simp [e1, e2, h1, e3, encP]
  · by_cases h2 : (spanD b).1 + (spanD b).2.2 ≤ (spanD a).1
    · have e3 := run_moved a ((spanD b).2.1 - (spanD b).2.2) S ha
      simp [e1, e2, h1, h2, e3, encP]
    · simp [e1, e2, h1, h2, encP]
theorem anyEq_strs (S : Store) (s : Str) (l : List Str) : anyEq S (.str s) (l.map .str) = some (decide (s ∈ l)) := by
  induction l with
  | nil => rfl
  | cons x l ih =>
    rw [List.map_cons, any_str, ih]
    simp only [Option.map_some, List.mem_cons]
    congr 1
    by_cases h : x = s
    · subst h; simp
    · have h' : ¬ s = x := fun z => h z.symm
      simp [h, h']
theorem ix0_enc (d : Deed) (S : Store) : ixD (encD d) (.int 0) S = some (.str (tagD d), S) := by rw [enc_eq]; simp [atI0]
theorem tag_say (d : Deed) : (tagD d = "say") = (isSay d = true) := by cases d <;> simp [tagD, isSay]
theorem tag_add (d : Deed) : (tagD d = "add") = (isAdd d = true) := by cases d <;> simp [tagD, isAdd]
theorem tag_tx (d : Deed) : (tagD d = "write" ∨ tagD d = "cut") ↔ isTx d = true := by cases d <;> simp [tagD, isTx]
theorem tag_rw (d : Deed) : (tagD d = "put" ∨ tagD d = "take") ↔ isRw d = true := by cases d <;> simp [tagD, isRw]
theorem inTx (d : Deed) (S : Store) : anyEq S (.str (tagD d)) [.str "write", .str "cut"] = some (isTx d) := by cases d <;> simp [tagD, isTx]
theorem inRw (d : Deed) (S : Store) : anyEq S (.str (tagD d)) [.str "put", .str "take"] = some (isRw d) := by cases d <;> simp [tagD, isRw]
theorem swap_loop (a b : Deed) (S : Store) (o : Option (Deed × Deed)) (hp : (isTx a = true ∧ isTx b = true) ∨ (isRw a = true ∧ isRw b = true) → g_past [encD a, encD b] S = .ok (encP o) S) :
    soOut (mSeq (mFor (iAt (mTup (aCons (mTup (aCons (mC (.str "write")) (aCons (mC (.str "cut")) (aNil)))) (aCons (mTup (aCons (mC (.str "put")) (aCons (mC (.str "take")) (aNil)))) (aNil))))) (gVar 2) (mIfS (tAndD (tVal (mBin (inD false) (mBin ixD (mVar 0) (mC (.int 0))) (mVar 2))) (tVal (mBin (inD false) (mBin ixD (mVar 1) (mC (.int 0))) (mVar 2)))) (mRt (mCall g_past (aCons (mVar 0) (aCons (mVar 1) (aNil))))) (mNil))) (mRt (mC .non))
      [some (encD a), some (encD b), none, none] S) = .ok (if (isTx a = true ∧ isTx b = true) ∨ (isRw a = true ∧ isRw b = true) then encP o else .non) S := by
  have n0 : nxtD S 0 (.at_ (.tup [.tup [.str "write", .str "cut"], .tup [.str "put", .str "take"]])) = some (some (.tup [.str "write", .str "cut"])) := rfl
  have n1 : nxtD S 1 (.at_ (.tup [.tup [.str "write", .str "cut"], .tup [.str "put", .str "take"]])) = some (some (.tup [.str "put", .str "take"])) := rfl
  have n2 : nxtD S 2 (.at_ (.tup [.tup [.str "write", .str "cut"], .tup [.str "put", .str "take"]])) = some none := rfl
  have c0 : cntD S (.at_ (.tup [.tup [.str "write", .str "cut"], .tup [.str "put", .str "take"]])) = 3 := rfl
  cases ha : isTx a with
  | true =>
    have hra : isRw a = false := by cases a <;> simp_all [isTx, isRw]
    cases hb : isTx b with
    | true =>
      have := hp (.inl ⟨ha, hb⟩)
      simp [-any_str, c0, forN, n0, n1, n2, ix0_enc, inTx, inRw, ha, hb, this]
    | false => simp [-any_str, c0, forN, n0, n1, n2, ix0_enc, inTx, inRw, ha, hb, hra]
  | false =>
    cases hra : isRw a with
    | false => simp [-any_str, c0, forN, n0, n1, n2, ix0_enc, inTx, inRw, ha, hra]
    | true =>
      cases hrb : isRw b with
      | true =>
        have := hp (.inr ⟨hra, hrb⟩)
        simp [-any_str, c0, forN, n0, n1, n2, ix0_enc, inTx, inRw, ha, hra, hrb, this]
      | false => simp [-any_str, c0, forN, n0, n1, n2, ix0_enc, inTx, inRw, ha, hra, hrb]
theorem run_swapped (a b : Deed) (S : Store) (oa : okD a = true) (ob : okD b = true) : g_swapped [encD a, encD b] S = .ok (encP (swapD a b)) S := by
  rw [call_swapped]; unfold m_swapped
  have fa := okD_fit oa
  have fb := okD_fit ob
  have la := run_lookD a S fa
  have lb := run_lookD b S fb
  rw [if_pos oa] at la
  rw [if_pos ob] at lb
  have hlc := mLc_filter (ts := .one 3) (vs := [3]) (mi := iAt (mCall g_names_of (aCons (mVar 0) (aNil)))) (t := tVal (mBin (inD false) (mVar 3) (mCall g_names_of (aCons (mVar 1) (aNil))))) (me := mVar 3) (δ := [some (encD a), some (encD b), none, none]) (S := S) (d := .lst ((touch a).map .str)) (l := touch a) (g := D.str) (h := D.str) (p := fun n => decide (n ∈ touch b))
    (by simp [run_names_of]) rfl (by cases a <;> simp [touch]) (by
      intro n hn
      refine ⟨_, rfl, by simp [wipeD, run_names_of, anyEq_strs], fun _ => by simp [wipeD]⟩)
  have hwr : ∀ d : Deed, (tagD d = "cut" ∨ tagD d = "write") ↔ isTx d = true := fun d => by rw [← tag_tx]; exact Or.comm
  have hpt : ∀ d : Deed, (tagD d = "take" ∨ tagD d = "put") ↔ isRw d = true := fun d => by rw [← tag_rw]; exact Or.comm
  unfold swapD
  by_cases h1 : isSay a = true ∧ isSay b = true
  · simp [la, lb, ix0_enc, tag_say, h1.1, h1.2, encP]
  · rw [if_neg h1]
    have h1' : isSay a = true → ¬ isSay b = true := fun z y => h1 ⟨z, y⟩
    by_cases h2 : apart a b = true
    · rw [if_pos h2]
      have h2' : (touch a).filter (fun n => decide (n ∈ touch b)) = [] := by unfold apart at h2; simpa using h2
      rw [h2'] at hlc
      by_cases hs : isSay a = true
      · simp [la, lb, ix0_enc, tag_say, hs, h1' hs, hlc, encP]
      · simp [la, lb, ix0_enc, tag_say, hs, hlc, encP]
    · rw [if_neg h2]
      have h2' : ¬ ((touch a).filter (fun n => decide (n ∈ touch b))).isEmpty = true := h2
      have h2'' : ¬ (((touch a).filter (fun n => decide (n ∈ touch b))).map D.str).isEmpty = true := by
        intro z; apply h2'; simpa using z
      have hs : ¬ (isSay a = true ∧ isSay b = true) := h1
      by_cases h3 : isAdd a = true ∧ isAdd b = true
      · rw [if_pos h3]
        by_cases hsa : isSay a = true
        · simp [la, lb, ix0_enc, tag_say, tag_add, hsa, h1' hsa, hlc, h2'', h3.1, h3.2, encP]
        · simp [la, lb, ix0_enc, tag_say, tag_add, hsa, hlc, h2'', h3.1, h3.2, encP]
      · rw [if_neg h3]
        have h3' : isAdd a = true → ¬ isAdd b = true := fun z y => h3 ⟨z, y⟩
        have pre : ∀ {k : MS}, (mSeq (mIfS (tAndD (tVal (mBin eqO (mBin ixD (mVar 0) (mC (.int 0))) (mC (.str "say")))) (tVal (mBin eqO (mBin ixD (mVar 1) (mC (.int 0))) (mC (.str "say"))))) (mRt (mC .non)) (mNil)) k) [some (encD a), some (encD b), none, none] S = k [some (encD a), some (encD b), none, none] S := fun {k} => by
          by_cases hsa : isSay a = true
          · simp [ix0_enc, tag_say, hsa, h1' hsa]
          · simp [ix0_enc, tag_say, hsa]
        have pre2 : ∀ {k : MS}, (mSeq (mIfS (tAndD (tVal (mBin eqO (mBin ixD (mVar 0) (mC (.int 0))) (mC (.str "add")))) (tVal (mBin eqO (mBin ixD (mVar 1) (mC (.int 0))) (mC (.str "add"))))) (mRt (mTup (aCons (mVar 1) (aCons (mVar 0) (aNil))))) (mNil)) k) [some (encD a), some (encD b), none, none] S = k [some (encD a), some (encD b), none, none] S := fun {k} => by
          by_cases hsa : isAdd a = true
          · simp [ix0_enc, tag_add, hsa, h3' hsa]
          · simp [ix0_enc, tag_add, hsa]
        have hp : (isTx a = true ∧ isTx b = true) ∨ (isRw a = true ∧ isRw b = true) → g_past [encD a, encD b] S = .ok (encP (pastD a b)) S := fun h4 => by
          have pa : isPl a = true := by rcases h4 with h | h <;> (have := h.1; cases a <;> simp_all [isTx, isRw, isPl])
          have pb : isPl b = true := by rcases h4 with h | h <;> (have := h.2; cases b <;> simp_all [isTx, isRw, isPl])
          exact run_past a b S pa pb fa fb
        have sl := swap_loop a b S _ hp
        simp only [ap_seq, ap_ex, ap_call, ap_consA, ap_nilA, ap_var, la, lb, List.getElem?_cons_zero, List.getElem?_cons_succ, bind_ok, then_ok, seq_nx]
        rw [← ap_seq, pre, ap_seq]
        simp only [ap_ifS, ap_tnot, ap_tru, hlc, bind_ok, tru_l, h2'', Bool.not_eq_true, Bool.not_false, Bool.not_true, then_ok, Bool.false_eq_true, if_false, if_true, ap_sNil, seq_nx]
        rw [pre2, sl]
        have e : (if (isTx a = true ∧ isTx b = true) ∨ (isRw a = true ∧ isRw b = true) then encP (pastD a b) else D.non) = encP (if (isTx a = true ∧ isTx b = true) ∨ (isRw a = true ∧ isRw b = true) then pastD a b else none) := by split <;> rfl
        rw [e]
        generalize (if (isTx a = true ∧ isTx b = true) ∨ (isRw a = true ∧ isRw b = true) then pastD a b else none) = o
        cases o <;> simp [encP]
end Dee

set_option maxRecDepth 100000
set_option maxHeartbeats 4000000
namespace Dee
open PySem PySem.Spec L2
/-! ### regions of a store -/
abbrev Reg := List (Nat × Cell)
def Own (S : Store) (r : Reg) : Prop := (r.map Prod.fst).Nodup ∧ ∀ p ∈ r, S[p.1]? = some p.2
theorem Own.get {S : Store} {r : Reg} (h : Own S r) {n : Nat} {c : Cell} (m : (n, c) ∈ r) : S[n]? = some c := h.2 _ m
theorem Own.lt {S : Store} {r : Reg} (h : Own S r) {p : Nat × Cell} (m : p ∈ r) : p.1 < S.length := (List.getElem?_eq_some_iff.mp (h.2 _ m)).1
theorem Own.perm {S : Store} {r r' : Reg} (h : Own S r) (e : r.Perm r') : Own S r' := ⟨(e.map Prod.fst).nodup_iff.mp h.1, fun p m => h.2 p (e.mem_iff.mpr m)⟩
theorem Own.set {S : Store} {r : Reg} {n : Nat} {c : Cell} (h : Own S ((n, c) :: r)) (c' : Cell) : Own (S.set n c') ((n, c') :: r) := by
  have hn := List.nodup_cons.mp h.1
  refine ⟨h.1, fun p m => ?_⟩
  rcases List.mem_cons.mp m with rfl | m
  · rw [List.getElem?_set_self (h.lt (List.mem_cons_self ..))]
  · have : n ≠ p.1 := fun z => hn.1 (List.mem_map.mpr ⟨p, m, z.symm⟩)
    rw [List.getElem?_set_ne this]
    exact h.2 p (List.mem_cons_of_mem _ m)
theorem Own.push {S : Store} {r : Reg} (h : Own S r) (c : Cell) : Own (S ++ [c]) ((S.length, c) :: r) := by
  refine ⟨List.nodup_cons.mpr ⟨fun m => ?_, h.1⟩, fun p m => ?_⟩
  · obtain ⟨p, hp, e⟩ := List.mem_map.mp m
    have := h.lt hp
    omega
  · rcases List.mem_cons.mp m with rfl | m
    · exact List.getElem?_concat_length
    · rw [List.getElem?_append_left (h.lt m)]; exact h.2 p m
theorem Own.grow {S : Store} {r : Reg} (h : Own S r) (G : Store) : Own (S ++ G) r := ⟨h.1, fun p m => by rw [List.getElem?_append_left (h.lt m)]; exact h.2 p m⟩
theorem Own.right {S : Store} {a b : Reg} (h : Own S (a ++ b)) : Own S b := ⟨by have := h.1; rw [List.map_append] at this; exact (List.nodup_append.mp this).2.1, fun p m => h.2 p (List.mem_append_right _ m)⟩
theorem Own.tail {S : Store} {a : Nat × Cell} {b : Reg} (h : Own S (a :: b)) : Own S b := Own.right (a := [a]) h
theorem Own.left {S : Store} {a b : Reg} (h : Own S (a ++ b)) : Own S a := Own.right (a := b) (h.perm List.perm_append_comm)
/-! ### counting, for what is the same but for its order -/
open Classical in
noncomputable def ind (y x : Nat × Cell) : Nat := if y = x then 1 else 0
noncomputable def cnt (x : Nat × Cell) : Reg → Nat
  | [] => 0
  | y :: l => ind y x + cnt x l
theorem cnt_nil (x : Nat × Cell) : cnt x [] = 0 := rfl
theorem cnt_cons (x y : Nat × Cell) (l : Reg) : cnt x (y :: l) = ind y x + cnt x l := rfl
theorem cnt_app (x : Nat × Cell) : ∀ (a b : Reg), cnt x (a ++ b) = cnt x a + cnt x b
  | [], b => by rw [List.nil_append, cnt_nil, Nat.zero_add]
  | y :: a, b => by rw [List.cons_append, cnt_cons, cnt_cons, cnt_app x a b]; omega
open Classical in
theorem perm_cnt {a b : Reg} (h : ∀ x, cnt x a = cnt x b) : a.Perm b := by
  refine List.perm_iff_count.mpr fun x => ?_
  have e : ∀ l : Reg, l.count x = cnt x l := fun l => by
    induction l with
    | nil => rfl
    | cons y l ih =>
      rw [List.count_cons, ih, cnt_cons]
      unfold ind
      by_cases hy : y = x
      · subst hy; simp; omega
      · simp [hy]
  rw [e, e]; exact h x
example (a b : Reg) (p q : Nat × Cell) : (p :: a ++ q :: b).Perm (q :: (a ++ p :: b)) := by (refine perm_cnt fun x => ?_; simp only [cnt_cons, cnt_app, cnt_nil, List.flatMap_append, List.flatMap_cons, List.flatMap_nil, List.map_append, List.map_cons, List.map_nil, List.cons_append, List.nil_append, List.append_assoc, List.append_nil]; try omega)
/-! ### reads -/
section
variable {S : Store} {n : Nat}
theorem asL_at {ds : List D} (h : S[n]? = some (.lst ds)) : asL S (.loc n) = some ds := by simp [asL, h]
theorem asK_at {ds : List (Key × D)} (h : S[n]? = some (.dct ds)) : asK S (.loc n) = some ds := by simp [asK, h]
theorem asL_dct {ds : List (Key × D)} (h : S[n]? = some (.dct ds)) : asL S (.loc n) = none := by simp [asL, h]
theorem asK_lst {ds : List D} (h : S[n]? = some (.lst ds)) : asK S (.loc n) = none := by simp [asK, h]
theorem cellL_at {ds : List D} (h : S[n]? = some (.lst ds)) : cellL S (.loc n) = some (n, ds) := by simp [cellL, h]
theorem cellK_at {ds : List (Key × D)} (h : S[n]? = some (.dct ds)) : cellK S (.loc n) = some (n, ds) := by simp [cellK, h]
theorem isK_lst {ds : List D} (h : S[n]? = some (.lst ds)) : isK .lst S (.loc n) = true := by simp [isK, asL_at h]
theorem isK_dct {ds : List (Key × D)} (h : S[n]? = some (.dct ds)) : isK .dct S (.loc n) = true := by simp [isK, asK_at h]
theorem in_cell {kvs : List (Key × D)} (h : S[n]? = some (.dct kvs)) (b : Bool) (i : Int) : inD b (.int i) (.loc n) S = some (.bl (b != (lk kvs (.inl i)).isSome), S) := by
  show (match asL S (.loc n) with
    | some ds => (anyEq S (.int i) ds).map fun r => (D.bl (b != r), S)
    | none => match asK S (.loc n), keyD (.int i) with
      | some kvs, some k => some (.bl (b != (lk kvs k).isSome), S)
      | _, _ => none) = _
  rw [asL_dct h, asK_at h]; rfl
theorem in_cellS {kvs : List (Key × D)} (h : S[n]? = some (.dct kvs)) (b : Bool) (i : Str) : inD b (.str i) (.loc n) S = some (.bl (b != (lk kvs (.inr i)).isSome), S) := by
  show (match asL S (.loc n) with
    | some ds => (anyEq S (.str i) ds).map fun r => (D.bl (b != r), S)
    | none => match asK S (.loc n), keyD (.str i) with
      | some kvs, some k => some (.bl (b != (lk kvs k).isSome), S)
      | _, _ => none) = _
  rw [asL_dct h, asK_at h]; rfl
theorem ix_cellK {kvs : List (Key × D)} (h : S[n]? = some (.dct kvs)) (i : Int) : ixD (.loc n) (.int i) S = (lk kvs (.inl i)).map fun d => (d, S) := by
  show (match asL S (.loc n), D.int i with
    | some ds, .int i => (atI ds i).map fun d => (d, S)
    | _, b => match asK S (.loc n), keyD b with
      | some kvs, some k => (lk kvs k).map fun d => (d, S)
      | _, _ => none) = _
  rw [asL_dct h, asK_at h]; rfl
theorem ix_cellS {kvs : List (Key × D)} (h : S[n]? = some (.dct kvs)) (i : Str) : ixD (.loc n) (.str i) S = (lk kvs (.inr i)).map fun d => (d, S) := by
  show (match asL S (.loc n), D.str i with
    | some ds, .int i => (atI ds i).map fun d => (d, S)
    | _, b => match asK S (.loc n), keyD b with
      | some kvs, some k => (lk kvs k).map fun d => (d, S)
      | _, _ => none) = _
  rw [asL_dct h, asK_at h]; rfl
theorem ix_cellL {ds : List D} (h : S[n]? = some (.lst ds)) (i : Int) : ixD (.loc n) (.int i) S = (atI ds i).map fun d => (d, S) := by
  show (match asL S (.loc n), D.int i with
    | some ds, .int i => (atI ds i).map fun d => (d, S)
    | _, b => match asK S (.loc n), keyD b with
      | some kvs, some k => (lk kvs k).map fun d => (d, S)
      | _, _ => none) = _
  rw [asL_at h]
theorem append_at {ds : List D} (h : S[n]? = some (.lst ds)) (hl : ds.length < 1000000) (x : D) : appendD (.loc n) [x] S = some (.non, S.set n (.lst (ds ++ [x]))) := by
  unfold appendD
  rw [cellL_at h]
  show (if ds.length < 1000000 then _ else _) = _
  rw [if_pos hl]
theorem atI_last {α : Type} (l : List α) (x : α) : atI (l ++ [x]) (-1) = some x := by
  unfold atI ixN
  have e : (-1 + ((l.length : Int) + 1)).toNat = l.length := by omega
  have h : (1 : Int) ≤ (l.length : Int) + 1 := by omega
  simp [e, h]
end
/-- what a def makes beside stays behind -/
theorem gc_grow {S G : Store} {d : D} (h : loD S.length d = true) : gcOut S (.ok d (S ++ G)) = .ok d S := gc_app h
theorem gc_growX {S G : Store} {c : Str} : gcOut S (.exn c [] (S ++ G)) = .exn c [] S := by
  simp only [gcOut]
  rw [if_pos ⟨.inl (by simp), rfl⟩]
  simp
end Dee

set_option maxRecDepth 100000
set_option maxHeartbeats 4000000
namespace Dee
open PySem PySem.Spec L2
noncomputable def m_Node_init : MS := mSeq (mSetF "Node" "origin" (mVar 0) (mVar 1)) (mSeq (mSetF "Node" "deed" (mVar 0) (mVar 2)) (mSeq (mSetF "Node" "other" (mVar 0) (mVar 3)) (mSetF "Node" "comes" (mVar 0) (mLst true (aNil)))))
noncomputable def g_Node_init : List D → Store → Out D := fnR m_Node_init 4 4
theorem call_Node_init (d0 d1 d2 d3 : D) (S : Store) : g_Node_init [d0, d1, d2, d3] S = soOut (m_Node_init [some d0, some d1, some d2, some d3] S) := run_defR rfl
theorem fn_len_Node_init : ∀ (ds : List D) (S : Store), g_Node_init ds S ≠ .bad → ds.length = 4 := fnR_len
noncomputable def m_Tree_init : MS := mSeq (mEx (mCall g_look_board (aCons (mVar 1) (aNil)))) (mSeq (mSetF "Tree" "here_board" (mVar 0) (mCall g_all_done (aCons (mDict0 false) (aCons (mLc false (iAt (mApp (sortedD false) (aCons (mMeth .dct keysD (mVar 1) aNil) (aNil)))) [2] (TgS.g (.one 2)) (tYesD) (mTup (aCons (mC (.str "whole")) (aCons (mVar 2) (aCons (mBin ixD (mVar 1) (mVar 2)) (aNil)))))) (aNil))))) (mSeq (mSetF "Tree" "nodes" (mVar 0) (mDict0 true)) (mSeq (mPut (mMk "Node" g_Node_init (aCons (mC .non) (aCons (mC .non) (aCons (mC .non) (aNil))))) (mFld "Tree" "nodes" (mVar 0)) (mC (.int 0))) (mSeq (mSetF "Tree" "here" (mVar 0) (mC (.int 0))) (mSeq (mSetF "Tree" "last" (mVar 0) (mC (.int 0))) (mSetF "Tree" "marked" (mVar 0) (mDict0 true)))))))
noncomputable def g_Tree_init : List D → Store → Out D := fnR m_Tree_init 3 2
theorem call_Tree_init (d0 d1 : D) (S : Store) : g_Tree_init [d0, d1] S = soOut (m_Tree_init [some d0, some d1, none] S) := run_defR rfl
theorem fn_len_Tree_init : ∀ (ds : List D) (S : Store), g_Tree_init ds S ≠ .bad → ds.length = 2 := fnR_len
noncomputable def m_Tree_board : MS := mRt (mMeth .dct (copyD false) (mFld "Tree" "here_board" (mVar 0)) aNil)
noncomputable def g_Tree_board : List D → Store → Out D := fnP m_Tree_board 1 1
theorem call_Tree_board (d0 : D) (S : Store) : g_Tree_board [d0] S = gcOut S (frzOut (soOut (m_Tree_board [some d0] S))) := run_def rfl
theorem fn_len_Tree_board : ∀ (ds : List D) (S : Store), g_Tree_board ds S ≠ .bad → ds.length = 1 := fnP_len
noncomputable def m_Tree_at : MS := mRt (mFld "Tree" "here" (mVar 0))
noncomputable def g_Tree_at : List D → Store → Out D := fnP m_Tree_at 1 1
theorem call_Tree_at (d0 : D) (S : Store) : g_Tree_at [d0] S = gcOut S (frzOut (soOut (m_Tree_at [some d0] S))) := run_def rfl
theorem fn_len_Tree_at : ∀ (ds : List D) (S : Store), g_Tree_at ds S ≠ .bad → ds.length = 1 := fnP_len
noncomputable def m_Tree_need : MS := mIfS (tVal (mBin (inD true) (mVar 1) (mFld "Tree" "nodes" (mVar 0)))) (mRaise "BadNumber") (mNil)
noncomputable def g_Tree_need : List D → Store → Out D := fnP m_Tree_need 2 2
theorem call_Tree_need (d0 d1 : D) (S : Store) : g_Tree_need [d0, d1] S = gcOut S (frzOut (soOut (m_Tree_need [some d0, some d1] S))) := run_def rfl
theorem fn_len_Tree_need : ∀ (ds : List D) (S : Store), g_Tree_need ds S ≠ .bad → ds.length = 2 := fnP_len
noncomputable def m_Tree_do : MS := mSeq (mAsg (mCall g_back (aCons (mFld "Tree" "here_board" (mVar 0)) (aCons (mVar 1) (aNil)))) (gVar 2)) (mSeq (mSetF "Tree" "here_board" (mVar 0) (mCall g_done (aCons (mFld "Tree" "here_board" (mVar 0)) (aCons (mVar 1) (aNil))))) (mSeq (mSetF "Tree" "last" (mVar 0) (mBin (addD true) (mFld "Tree" "last" (mVar 0)) (mC (.int 1)))) (mSeq (mPut (mMk "Node" g_Node_init (aCons (mFld "Tree" "here" (mVar 0)) (aCons (mVar 1) (aCons (mVar 2) (aNil))))) (mFld "Tree" "nodes" (mVar 0)) (mFld "Tree" "last" (mVar 0))) (mSeq (mEx (mMeth .lst appendD (mFld "Node" "comes" (mBin ixD (mFld "Tree" "nodes" (mVar 0)) (mFld "Tree" "here" (mVar 0)))) (aCons (mFld "Tree" "last" (mVar 0)) (aNil)))) (mSeq (mSetF "Tree" "here" (mVar 0) (mFld "Tree" "last" (mVar 0))) (mRt (mFld "Tree" "last" (mVar 0))))))))
noncomputable def g_Tree_do : List D → Store → Out D := fnR m_Tree_do 3 2
theorem call_Tree_do (d0 d1 : D) (S : Store) : g_Tree_do [d0, d1] S = soOut (m_Tree_do [some d0, some d1, none] S) := run_defR rfl
theorem fn_len_Tree_do : ∀ (ds : List D) (S : Store), g_Tree_do ds S ≠ .bad → ds.length = 2 := fnR_len
noncomputable def m_Tree_above : MS := mSeq (mEx (mMth "Tree" "need" g_Tree_need (mVar 0) (aCons (mVar 1) (aNil)))) (mSeq (mAsg (mLst true (aCons (mVar 1) (aNil))) (gVar 2)) (mSeq (mWhile (tVal (mBin (isND true) (mFld "Node" "origin" (mBin ixD (mFld "Tree" "nodes" (mVar 0)) (mBin ixD (mVar 2) (mUn negD (mC (.int 1)))))) (mC .non))) (mEx (mMeth .lst appendD (mVar 2) (aCons (mFld "Node" "origin" (mBin ixD (mFld "Tree" "nodes" (mVar 0)) (mBin ixD (mVar 2) (mUn negD (mC (.int 1)))))) (aNil))))) (mRt (mVar 2))))
noncomputable def g_Tree_above : List D → Store → Out D := fnP m_Tree_above 3 2
theorem call_Tree_above (d0 d1 : D) (S : Store) : g_Tree_above [d0, d1] S = gcOut S (frzOut (soOut (m_Tree_above [some d0, some d1, none] S))) := run_def rfl
theorem fn_len_Tree_above : ∀ (ds : List D) (S : Store), g_Tree_above ds S ≠ .bad → ds.length = 2 := fnP_len
noncomputable def m_Tree_path : MS := mSeq (mAsg (mMth "Tree" "above" g_Tree_above (mVar 0) (aCons (mVar 1) (aNil))) (gVar 3)) (mSeq (mAsg (mMth "Tree" "above" g_Tree_above (mVar 0) (aCons (mVar 2) (aNil))) (gVar 4)) (mSeq (mAsg (mBin ixD (mLc false (iAt (mVar 3)) [6] (TgS.g (.one 6)) (tVal (mBin (inD false) (mVar 6) (mVar 4))) (mVar 6)) (mC (.int 0))) (gVar 5)) (mRt (mTup (aCons (mSl false (mVar 3) oNone (oSome (mMeth .lst indexD (mVar 3) (aCons (mVar 5) (aNil))))) (aCons (mVar 5) (aCons (mUn (revD false) (mSl false (mVar 4) oNone (oSome (mMeth .lst indexD (mVar 4) (aCons (mVar 5) (aNil)))))) (aNil))))))))
noncomputable def g_Tree_path : List D → Store → Out D := fnP m_Tree_path 7 3
theorem call_Tree_path (d0 d1 d2 : D) (S : Store) : g_Tree_path [d0, d1, d2] S = gcOut S (frzOut (soOut (m_Tree_path [some d0, some d1, some d2, none, none, none, none] S))) := run_def rfl
theorem fn_len_Tree_path : ∀ (ds : List D) (S : Store), g_Tree_path ds S ≠ .bad → ds.length = 3 := fnP_len
noncomputable def m_Tree_between : MS := mSeq (mAsg (mMth "Tree" "path" g_Tree_path (mVar 0) (aCons (mVar 1) (aCons (mVar 2) (aNil)))) (gTupD 3 (gsCons (gVar 3) (gsCons (gVar 4) (gsCons (gVar 5) (gsNil)))))) (mSeq (mAsg (mBin (addD false) (mLc false (iAt (mVar 3)) [7] (TgS.g (.one 7)) (tYesD) (mFld "Node" "other" (mBin ixD (mFld "Tree" "nodes" (mVar 0)) (mVar 7)))) (mLc false (iAt (mVar 5)) [7] (TgS.g (.one 7)) (tYesD) (mFld "Node" "deed" (mBin ixD (mFld "Tree" "nodes" (mVar 0)) (mVar 7))))) (gVar 6)) (mSeq (mIfS (tOrD (tVal (mBin (inD false) (mC .non) (mVar 6))) (tTru (mApp anyD (aCons (mLc false (iAt (mVar 5)) [7] (TgS.g (.one 7)) (tYesD) (mBin eqO (mBin ixD (mFld "Node" "deed" (mBin ixD (mFld "Tree" "nodes" (mVar 0)) (mVar 7))) (mC (.int 0))) (mC (.str "say")))) (aNil))))) (mRaise "Stuck") (mNil)) (mRt (mVar 6))))
noncomputable def g_Tree_between : List D → Store → Out D := fnP m_Tree_between 8 3
theorem call_Tree_between (d0 d1 d2 : D) (S : Store) : g_Tree_between [d0, d1, d2] S = gcOut S (frzOut (soOut (m_Tree_between [some d0, some d1, some d2, none, none, none, none, none] S))) := run_def rfl
theorem fn_len_Tree_between : ∀ (ds : List D) (S : Store), g_Tree_between ds S ≠ .bad → ds.length = 3 := fnP_len
noncomputable def m_Tree_go : MS := mSeq (mAsg (mMth "Tree" "between" g_Tree_between (mVar 0) (aCons (mFld "Tree" "here" (mVar 0)) (aCons (mVar 1) (aNil)))) (gVar 2)) (mSeq (mSetF "Tree" "here_board" (mVar 0) (mCall g_all_done (aCons (mFld "Tree" "here_board" (mVar 0)) (aCons (mVar 2) (aNil))))) (mSetF "Tree" "here" (mVar 0) (mVar 1)))
noncomputable def g_Tree_go : List D → Store → Out D := fnR m_Tree_go 3 2
theorem call_Tree_go (d0 d1 : D) (S : Store) : g_Tree_go [d0, d1] S = soOut (m_Tree_go [some d0, some d1, none] S) := run_defR rfl
theorem fn_len_Tree_go : ∀ (ds : List D) (S : Store), g_Tree_go ds S ≠ .bad → ds.length = 2 := fnR_len
noncomputable def m_Tree_parent : MS := mSeq (mEx (mMth "Tree" "need" g_Tree_need (mVar 0) (aCons (mVar 1) (aNil)))) (mRt (mFld "Node" "origin" (mBin ixD (mFld "Tree" "nodes" (mVar 0)) (mVar 1))))
noncomputable def g_Tree_parent : List D → Store → Out D := fnP m_Tree_parent 2 2
theorem call_Tree_parent (d0 d1 : D) (S : Store) : g_Tree_parent [d0, d1] S = gcOut S (frzOut (soOut (m_Tree_parent [some d0, some d1] S))) := run_def rfl
theorem fn_len_Tree_parent : ∀ (ds : List D) (S : Store), g_Tree_parent ds S ≠ .bad → ds.length = 2 := fnP_len
noncomputable def m_Tree_children : MS := mSeq (mEx (mMth "Tree" "need" g_Tree_need (mVar 0) (aCons (mVar 1) (aNil)))) (mRt (mApp (listD false) (aCons (mFld "Node" "comes" (mBin ixD (mFld "Tree" "nodes" (mVar 0)) (mVar 1))) (aNil))))
noncomputable def g_Tree_children : List D → Store → Out D := fnR m_Tree_children 2 2
theorem call_Tree_children (d0 d1 : D) (S : Store) : g_Tree_children [d0, d1] S = soOut (m_Tree_children [some d0, some d1] S) := run_defR rfl
theorem fn_len_Tree_children : ∀ (ds : List D) (S : Store), g_Tree_children ds S ≠ .bad → ds.length = 2 := fnR_len
noncomputable def m_Tree_tips : MS := mRt (mLc false (iAt (mApp (sortedD false) (aCons (mMeth .dct keysD (mFld "Tree" "nodes" (mVar 0)) aNil) (aNil)))) [1] (TgS.g (.one 1)) (tNotD (tTru (mFld "Node" "comes" (mBin ixD (mFld "Tree" "nodes" (mVar 0)) (mVar 1))))) (mVar 1))
noncomputable def g_Tree_tips : List D → Store → Out D := fnP m_Tree_tips 2 1
theorem call_Tree_tips (d0 : D) (S : Store) : g_Tree_tips [d0] S = gcOut S (frzOut (soOut (m_Tree_tips [some d0, none] S))) := run_def rfl
theorem fn_len_Tree_tips : ∀ (ds : List D) (S : Store), g_Tree_tips ds S ≠ .bad → ds.length = 1 := fnP_len
noncomputable def m_Tree_mark : MS := mSeq (mEx (mMth "Tree" "need" g_Tree_need (mVar 0) (aCons (mVar 2) (aNil)))) (mSeq (mIfS (tNotD (tTru (mCall g_is_word (aCons (mVar 1) (aNil))))) (mRaise "BadNumber") (mNil)) (mPut (mVar 2) (mFld "Tree" "marked" (mVar 0)) (mVar 1)))
noncomputable def g_Tree_mark : List D → Store → Out D := fnR m_Tree_mark 3 3
theorem call_Tree_mark (d0 d1 d2 : D) (S : Store) : g_Tree_mark [d0, d1, d2] S = soOut (m_Tree_mark [some d0, some d1, some d2] S) := run_defR rfl
theorem fn_len_Tree_mark : ∀ (ds : List D) (S : Store), g_Tree_mark ds S ≠ .bad → ds.length = 3 := fnR_len
noncomputable def m_Tree_marks : MS := mRt (mLc false (iAt (mApp (sortedD false) (aCons (mMeth .dct keysD (mFld "Tree" "marked" (mVar 0)) aNil) (aNil)))) [1] (TgS.g (.one 1)) (tYesD) (mTup (aCons (mVar 1) (aCons (mBin ixD (mFld "Tree" "marked" (mVar 0)) (mVar 1)) (aNil)))))
noncomputable def g_Tree_marks : List D → Store → Out D := fnP m_Tree_marks 2 1
theorem call_Tree_marks (d0 : D) (S : Store) : g_Tree_marks [d0] S = gcOut S (frzOut (soOut (m_Tree_marks [some d0, none] S))) := run_def rfl
theorem fn_len_Tree_marks : ∀ (ds : List D) (S : Store), g_Tree_marks ds S ≠ .bad → ds.length = 1 := fnP_len
noncomputable def m_Tree_cut : MS := mSeq (mEx (mMth "Tree" "need" g_Tree_need (mVar 0) (aCons (mVar 1) (aNil)))) (mSeq (mIfS (tVal (mBin (inD false) (mVar 1) (mMth "Tree" "above" g_Tree_above (mVar 0) (aCons (mFld "Tree" "here" (mVar 0)) (aNil))))) (mRaise "Stuck") (mNil)) (mSeq (mAsg (mLc false (iKeysD (mFld "Tree" "nodes" (mVar 0))) [3] (TgS.g (.one 3)) (tVal (mBin (inD false) (mVar 1) (mMth "Tree" "above" g_Tree_above (mVar 0) (aCons (mVar 3) (aNil))))) (mVar 3)) (gVar 2)) (mSeq (mEx (mMeth .lst removeD (mFld "Node" "comes" (mBin ixD (mFld "Tree" "nodes" (mVar 0)) (mFld "Node" "origin" (mBin ixD (mFld "Tree" "nodes" (mVar 0)) (mVar 1))))) (aCons (mVar 1) (aNil)))) (mSeq (mFor (iAt (mVar 2)) (gVar 3) (mEx (mMeth .dct dpopD (mFld "Tree" "nodes" (mVar 0)) (aCons (mVar 3) (aNil))))) (mSeq (mFor (iAt (mApp (listD false) (aCons (mMeth .dct keysD (mFld "Tree" "marked" (mVar 0)) aNil) (aNil)))) (gVar 4) (mIfS (tVal (mBin (inD false) (mBin ixD (mFld "Tree" "marked" (mVar 0)) (mVar 4)) (mVar 2))) (mEx (mMeth .dct dpopD (mFld "Tree" "marked" (mVar 0)) (aCons (mVar 4) (aNil)))) (mNil))) (mRt (mApp lenD (aCons (mVar 2) (aNil)))))))))
noncomputable def g_Tree_cut : List D → Store → Out D := fnR m_Tree_cut 5 2
theorem call_Tree_cut (d0 d1 : D) (S : Store) : g_Tree_cut [d0, d1] S = soOut (m_Tree_cut [some d0, some d1, none, none, none] S) := run_defR rfl
theorem fn_len_Tree_cut : ∀ (ds : List D) (S : Store), g_Tree_cut ds S ≠ .bad → ds.length = 2 := fnR_len
noncomputable def m_Tree_many : MS := mRt (mApp lenD (aCons (mFld "Tree" "nodes" (mVar 0)) (aNil)))
noncomputable def g_Tree_many : List D → Store → Out D := fnP m_Tree_many 1 1
theorem call_Tree_many (d0 : D) (S : Store) : g_Tree_many [d0] S = gcOut S (frzOut (soOut (m_Tree_many [some d0] S))) := run_def rfl
theorem fn_len_Tree_many : ∀ (ds : List D) (S : Store), g_Tree_many ds S ≠ .bad → ds.length = 1 := fnP_len
end Dee

set_option maxRecDepth 100000
set_option maxHeartbeats 4000000
namespace Dee
open PySem PySem.Spec L2
/-! ### a tree and its cells -/
structure Nd where
  k : Int
  l : Nat
  c : Nat
  par : Option Int
  deed : Option Deed
  oth : Option Deed
  kids : List Int
structure Tr where
  n : Nat
  nl : Nat
  ml : Nat
  board : Board
  nodes : List Nd
  here : Int
  last : Int
  marks : List (Str × Int)
def encI : Option Int → D
  | some i => .int i
  | none => .non
def ndF (x : Nd) : List (Str × D) := [("origin", encI x.par), ("deed", encO x.deed), ("other", encO x.oth), ("comes", .loc x.c)]
def ndCells (x : Nd) : Reg := [(x.l, .ins "Node" (ndF x)), (x.c, .lst (x.kids.map .int))]
def trF (T : Tr) : List (Str × D) := [("here_board", .dct (encB T.board)), ("nodes", .loc T.nl), ("here", .int T.here), ("last", .int T.last), ("marked", .loc T.ml)]
def ndK (ns : List Nd) : List (Key × D) := ns.map fun x => (.inl x.k, .loc x.l)
def mkK (ms : List (Str × Int)) : List (Key × D) := ms.map fun m => (.inr m.1, .int m.2)
def trCells (T : Tr) : Reg := (T.n, .ins "Tree" (trF T)) :: (T.nl, .dct (ndK T.nodes)) :: (T.ml, .dct (mkK T.marks)) :: T.nodes.flatMap ndCells
def Tr.nd (T : Tr) (i : Int) : Option Nd := T.nodes.find? fun x => decide (x.k = i)
theorem lk_nodes (ns : List Nd) (i : Int) : lk (ndK ns) (.inl i) = (ns.find? fun x => decide (x.k = i)).map fun x => .loc x.l := by
  induction ns with
  | nil => rfl
  | cons x ns ih =>
    by_cases h : x.k = i
    · subst h; simp [ndK, lk]
    · have h2 : ¬ (Sum.inl x.k : Key) = Sum.inl i := fun z => h (Sum.inl.inj z)
      have e : lk (ndK (x :: ns)) (.inl i) = lk (ndK ns) (.inl i) := by
        simp [ndK, lk, List.find?_cons, h2, h]
      rw [e, ih]; simp [List.find?_cons, h]
structure TOk (S : Store) (T : Tr) : Prop where
  t : S[T.n]? = some (.ins "Tree" (trF T))
  ns : S[T.nl]? = some (.dct (ndK T.nodes))
  ms : S[T.ml]? = some (.dct (mkK T.marks))
  x : ∀ x ∈ T.nodes, S[x.l]? = some (.ins "Node" (ndF x)) ∧ S[x.c]? = some (.lst (x.kids.map .int))
theorem Own.tok {S : Store} {T : Tr} {r : Reg} (h : Own S (trCells T ++ r)) : TOk S T where
  t := h.get (by simp [trCells])
  ns := h.get (by simp [trCells])
  ms := h.get (by simp [trCells])
  x := fun x hx => ⟨h.get (by simp only [trCells, List.cons_append, List.mem_cons, List.mem_append, List.mem_flatMap]; exact .inr (.inr (.inr (.inl ⟨x, hx, by simp [ndCells]⟩)))), h.get (by simp only [trCells, List.cons_append, List.mem_cons, List.mem_append, List.mem_flatMap]; exact .inr (.inr (.inr (.inl ⟨x, hx, by simp [ndCells]⟩))))⟩
theorem get_grow {S G : Store} {n : Nat} {c : Cell} (h : S[n]? = some c) : (S ++ G)[n]? = some c := by
  rw [List.getElem?_append_left (List.getElem?_eq_some_iff.mp h).1]; exact h
theorem TOk.grow {S : Store} {T : Tr} (h : TOk S T) (G : Store) : TOk (S ++ G) T := ⟨get_grow h.t, get_grow h.ns, get_grow h.ms, fun x hx => ⟨get_grow (h.x x hx).1, get_grow (h.x x hx).2⟩⟩
theorem nd_mem {T : Tr} {i : Int} {x : Nd} (h : T.nd i = some x) : x ∈ T.nodes ∧ x.k = i := ⟨List.mem_of_find?_eq_some h, by simpa using List.find?_some h⟩
section
variable {T : Tr} {x : Nd}
@[simp] theorem tf_board : (trF T).lookup (Str.ofString "here_board") = some (D.dct (encB T.board)) := rfl
@[simp] theorem tf_nodes : (trF T).lookup (Str.ofString "nodes") = some (D.loc T.nl) := rfl
@[simp] theorem tf_here : (trF T).lookup (Str.ofString "here") = some (D.int T.here) := rfl
@[simp] theorem tf_last : (trF T).lookup (Str.ofString "last") = some (D.int T.last) := rfl
@[simp] theorem tf_marked : (trF T).lookup (Str.ofString "marked") = some (D.loc T.ml) := rfl
@[simp] theorem nf_origin : (ndF x).lookup (Str.ofString "origin") = some (encI x.par) := rfl
@[simp] theorem nf_deed : (ndF x).lookup (Str.ofString "deed") = some (encO x.deed) := rfl
@[simp] theorem nf_other : (ndF x).lookup (Str.ofString "other") = some (encO x.oth) := rfl
@[simp] theorem nf_comes : (ndF x).lookup (Str.ofString "comes") = some (D.loc x.c) := rfl
@[simp] theorem tm_need : (trF T).lookup (Str.ofString "need") = none := rfl
@[simp] theorem tm_above : (trF T).lookup (Str.ofString "above") = none := rfl
@[simp] theorem tm_path : (trF T).lookup (Str.ofString "path") = none := rfl
@[simp] theorem tm_between : (trF T).lookup (Str.ofString "between") = none := rfl
@[simp] theorem tm_go : (trF T).lookup (Str.ofString "go") = none := rfl
@[simp] theorem tm_do : (trF T).lookup (Str.ofString "do") = none := rfl
@[simp] theorem tm_at : (trF T).lookup (Str.ofString "at") = none := rfl
@[simp] theorem tm_board : (trF T).lookup (Str.ofString "board") = none := rfl
@[simp] theorem tm_parent : (trF T).lookup (Str.ofString "parent") = none := rfl
@[simp] theorem tm_children : (trF T).lookup (Str.ofString "children") = none := rfl
@[simp] theorem tm_tips : (trF T).lookup (Str.ofString "tips") = none := rfl
@[simp] theorem tm_many : (trF T).lookup (Str.ofString "many") = none := rfl
@[simp] theorem tm_mark : (trF T).lookup (Str.ofString "mark") = none := rfl
@[simp] theorem tm_marks : (trF T).lookup (Str.ofString "marks") = none := rfl
@[simp] theorem tm_cut : (trF T).lookup (Str.ofString "cut") = none := rfl
@[simp] theorem tm_shown : (trF T).lookup (Str.ofString "shown") = none := rfl
end
section
variable {S : Store} {T : Tr} (k : TOk S T)
include k
theorem TOk.ins : insOf S (.loc T.n) = some (T.n, Str.ofString "Tree", trF T) := insOf_loc k.t
theorem TOk.insN {x : Nd} (h : x ∈ T.nodes) : insOf S (.loc x.l) = some (x.l, Str.ofString "Node", ndF x) := insOf_loc (k.x x h).1
theorem TOk.ix (i : Int) : ixD (.loc T.nl) (.int i) S = (T.nd i).map fun x => (.loc x.l, S) := by
  rw [ix_cellK k.ns, lk_nodes]
  unfold Tr.nd
  cases T.nodes.find? fun x => decide (x.k = i) <;> rfl
theorem TOk.inn (b : Bool) (i : Int) : inD b (.int i) (.loc T.nl) S = some (.bl (b != (T.nd i).isSome), S) := by
  rw [in_cell k.ns, lk_nodes, Option.isSome_map]; rfl
theorem run_need (i : Int) : g_Tree_need [.loc T.n, .int i] S = if (T.nd i).isSome = true then .ok .non S else .exn "BadNumber" [] S := by
  rw [call_Tree_need]; unfold m_Tree_need
  cases h : T.nd i with
  | none => simp [k.ins, k.inn, h]
  | some x => simp [k.ins, k.inn, h]
theorem run_at : g_Tree_at [.loc T.n] S = .ok (.int T.here) S := by
  rw [call_Tree_at]; unfold m_Tree_at
  simp [k.ins]
theorem run_Tboard : g_Tree_board [.loc T.n] S = .ok (.dct (encB T.board)) S := by
  rw [call_Tree_board]; unfold m_Tree_board
  have hk : isK .dct S (.dct (encB T.board)) = true := rfl
  have hc : copyD false (.dct (encB T.board)) [] S = some (.dct (encB T.board), S) := rfl
  simp [k.ins, hk, hc]
end
/-! ### the way up -/
def Tr.par (T : Tr) (i : Int) : Option Int := (T.nd i).bind (·.par)
structure Wf (T : Tr) : Prop where
  pos : ∀ x ∈ T.nodes, 0 ≤ x.k
  up : ∀ x ∈ T.nodes, ∀ p, x.par = some p → 0 ≤ p ∧ p < x.k ∧ (T.nd p).isSome = true
def upF (T : Tr) : Nat → Int → List Int
  | 0, i => [i]
  | f + 1, i => i :: (match T.par i with
    | some p => upF T f p
    | none => [])
def above (T : Tr) (i : Int) : List Int := upF T i.toNat i
theorem upF_more {T : Tr} (w : Wf T) : ∀ (f : Nat) (i : Int), i.toNat ≤ f → upF T f i = above T i := by
  have key : ∀ (f g : Nat) (i : Int), i.toNat ≤ f → i.toNat ≤ g → upF T f i = upF T g i := by
    intro f
    induction f with
    | zero =>
      intro g i h1 h2
      cases g with
      | zero => rfl
      | succ g =>
        unfold upF
        cases hp : T.par i with
        | none => rfl
        | some p =>
          obtain ⟨x, hx, hxp⟩ := Option.bind_eq_some_iff.mp hp
          obtain ⟨m, e⟩ := nd_mem hx
          have := w.up x m p hxp
          omega
    | succ f ih =>
      intro g i h1 h2
      cases g with
      | zero =>
        unfold upF
        cases hp : T.par i with
        | none => rfl
        | some p =>
          obtain ⟨x, hx, hxp⟩ := Option.bind_eq_some_iff.mp hp
          obtain ⟨m, e⟩ := nd_mem hx
          have := w.up x m p hxp
          omega
      | succ g =>
        unfold upF
        cases hp : T.par i with
        | none => rfl
        | some p =>
          obtain ⟨x, hx, hxp⟩ := Option.bind_eq_some_iff.mp hp
          obtain ⟨m, e⟩ := nd_mem hx
          have := w.up x m p hxp
          show i :: upF T f p = i :: upF T g p
          rw [ih g p (by omega) (by omega)]
  exact fun f i h => key f i.toNat i h (Nat.le_refl _)
theorem above_eq {T : Tr} (w : Wf T) {i : Int} : above T i = i :: (match T.par i with
    | some p => above T p
    | none => []) := by
  unfold above
  cases h : i.toNat with
  | zero =>
    unfold upF
    cases hp : T.par i with
    | none => rfl
    | some p =>
      obtain ⟨x, hx, hxp⟩ := Option.bind_eq_some_iff.mp hp
      obtain ⟨m, e⟩ := nd_mem hx
      have := w.up x m p hxp
      omega
  | succ f =>
    show i :: (match T.par i with
      | some p => upF T f p
      | none => []) = _
    cases hp : T.par i with
    | none => rfl
    | some p =>
      obtain ⟨x, hx, hxp⟩ := Option.bind_eq_some_iff.mp hp
      obtain ⟨m, e⟩ := nd_mem hx
      have := w.up x m p hxp
      show i :: upF T f p = i :: upF T p.toNat p
      rw [upF_more w f p (by omega)]; rfl
/-- all that stand above one that is there are there, and each is smaller -/
theorem above_mem {T : Tr} (w : Wf T) : ∀ (f : Nat) (i : Int), i.toNat ≤ f → (T.nd i).isSome = true → ∀ j ∈ above T i, (T.nd j).isSome = true ∧ 0 ≤ j ∧ j ≤ i := by
  intro f
  induction f with
  | zero =>
    intro i h hs j hj
    rw [above_eq w] at hj
    obtain ⟨x, hx⟩ := Option.isSome_iff_exists.mp hs
    obtain ⟨m, e⟩ := nd_mem hx
    have hp := w.pos x m
    rcases List.mem_cons.mp hj with rfl | hj
    · exact ⟨hs, by omega, Int.le_refl _⟩
    · cases hp : T.par i with
      | none => rw [hp] at hj; cases hj
      | some p =>
        obtain ⟨x, hx, hxp⟩ := Option.bind_eq_some_iff.mp hp
        obtain ⟨m, e⟩ := nd_mem hx
        have := w.up x m p hxp
        omega
  | succ f ih =>
    intro i h hs j hj
    rw [above_eq w] at hj
    obtain ⟨x, hx⟩ := Option.isSome_iff_exists.mp hs
    obtain ⟨m, e⟩ := nd_mem hx
    have hp := w.pos x m
    rcases List.mem_cons.mp hj with rfl | hj
    · exact ⟨hs, by omega, Int.le_refl _⟩
    · cases hp : T.par i with
      | none => rw [hp] at hj; cases hj
      | some p =>
        rw [hp] at hj
        obtain ⟨x, hx, hxp⟩ := Option.bind_eq_some_iff.mp hp
        obtain ⟨m, e⟩ := nd_mem hx
        have hu := w.up x m p hxp
        obtain ⟨a, b, c⟩ := ih p (by omega) hu.2.2 j hj
        exact ⟨a, b, by omega⟩
end Dee

set_option maxRecDepth 100000
set_option maxHeartbeats 4000000
namespace Dee
open PySem PySem.Spec L2
noncomputable abbrev cAb : MT := (tVal (mBin (isND true) (mFld "Node" "origin" (mBin ixD (mFld "Tree" "nodes" (mVar 0)) (mBin ixD (mVar 2) (mUn negD (mC (.int 1)))))) (mC .non)))
noncomputable abbrev bAb : MS := (mEx (mMeth .lst appendD (mVar 2) (aCons (mFld "Node" "origin" (mBin ixD (mFld "Tree" "nodes" (mVar 0)) (mBin ixD (mVar 2) (mUn negD (mC (.int 1)))))) (aNil))))
theorem par_of {T : Tr} {i : Int} {x : Nd} (h : T.nd i = some x) : T.par i = x.par := by unfold Tr.par; rw [h]; rfl
theorem above_loop {S : Store} {T : Tr} (k : TOk S T) (w : Wf T) (x1 : Option D) : ∀ (f : Nat) (i : Int) (pre : List Int), i.toNat ≤ f → (T.nd i).isSome = true → pre.length + f ≤ 900000 →
    whileN cAb bAb (f + 1) [some (.loc T.n), x1, some (.loc S.length)] (S ++ [.lst ((pre ++ [i]).map .int)]) = .nx [some (.loc T.n), x1, some (.loc S.length)] (S ++ [.lst ((pre ++ above T i).map .int)]) := by
  have hat : ∀ ds, (S ++ [Cell.lst ds])[S.length]? = some (.lst ds) := fun ds => List.getElem?_concat_length
  intro f
  induction f with
  | zero =>
    intro i pre hf hs hl
    obtain ⟨x, hx⟩ := Option.isSome_iff_exists.mp hs
    obtain ⟨m, e⟩ := nd_mem hx
    have kk := k.grow [.lst ((pre ++ [i]).map .int)]
    have hn : x.par = none := by
      cases hp : x.par with
      | none => rfl
      | some p => have := w.up x m p hp; omega
    have e1 : ixD (.loc S.length) (.int (-1)) (S ++ [.lst ((pre ++ [i]).map .int)]) = some (.int i, S ++ [.lst ((pre ++ [i]).map .int)]) := by
      rw [ix_cellL (hat _), List.map_append]; show (atI (_ ++ [D.int i]) (-1)).map _ = _; rw [atI_last]; rfl
    rw [above_eq w, par_of hx, hn]
    unfold whileN
    simp only [List.map_append, List.map_cons, List.map_nil] at *
    simp [e1, kk.ins, kk.ix, hx, kk.insN m, hn, encI]
  | succ f ih =>
    intro i pre hf hs hl
    obtain ⟨x, hx⟩ := Option.isSome_iff_exists.mp hs
    obtain ⟨m, e⟩ := nd_mem hx
    have kk := k.grow [.lst ((pre ++ [i]).map .int)]
    have e1 : ixD (.loc S.length) (.int (-1)) (S ++ [.lst ((pre ++ [i]).map .int)]) = some (.int i, S ++ [.lst ((pre ++ [i]).map .int)]) := by
      rw [ix_cellL (hat _), List.map_append]; show (atI (_ ++ [D.int i]) (-1)).map _ = _; rw [atI_last]; rfl
    rw [above_eq w, par_of hx]
    cases hp : x.par with
    | none =>
      unfold whileN
      simp only [List.map_append, List.map_cons, List.map_nil] at *
      simp [e1, kk.ins, kk.ix, hx, kk.insN m, hp, encI]
    | some p =>
      have hu := w.up x m p hp
      have ih' := ih p (pre ++ [i]) (by omega) hu.2.2 (by rw [List.length_append, List.length_singleton]; omega)
      have e2 := append_at (hat ((pre ++ [i]).map .int)) (by rw [List.length_map, List.length_append, List.length_singleton]; omega) (.int p)
      have e3 := set_len S (.lst ((pre ++ [i]).map .int)) (.lst ((pre ++ [i]).map .int ++ [.int p]))
      have e4 := isK_lst (hat ((pre ++ [i]).map .int))
      rw [e3] at e2
      have e5 : (pre ++ [i] ++ [p]).map D.int = (pre ++ [i]).map D.int ++ [.int p] := by simp
      rw [e5] at ih'
      unfold whileN
      have e6 : pre ++ i :: above T p = pre ++ [i] ++ above T p := by simp
      simp only [e6]
      rw [← ih']
      simp only [List.map_append, List.map_cons, List.map_nil] at *
      simp [e1, kk.ins, kk.ix, hx, kk.insN m, hp, encI, e2, e4]
theorem lo_ints (k : Nat) : ∀ l : List Int, loDs k (l.map D.int) = true
  | [] => rfl
  | _ :: l => lo_ints k l
theorem run_above {S : Store} {T : Tr} (k : TOk S T) (w : Wf T) {i : Int} (hs : (T.nd i).isSome = true) (hi : i ≤ 800000) : g_Tree_above [.loc T.n, .int i] S = .ok (.lst ((above T i).map .int)) S := by
  rw [call_Tree_above]
  unfold m_Tree_above
  have h1 := run_need k i
  rw [if_pos hs] at h1
  have lp := above_loop k w (some (.int i)) i.toNat i [] (Nat.le_refl _) hs (by show 0 + _ ≤ _; omega)
  have hw := mWhile_eq (c := cAb) (b := bAb) (n := i.toNat + 1) (δ := [some (.loc T.n), some (.int i), some (.loc S.length)]) (S := S ++ [.lst [.int i]]) (by
    show whileN cAb bAb (i.toNat + 1) _ _ ≠ _
    rw [show [D.int i] = ([] ++ [i] : List Int).map D.int from rfl, lp]; exact fun z => by cases z)
  have lp' : mWhile cAb bAb [some (.loc T.n), some (.int i), some (.loc S.length)] (S ++ [.lst [.int i]]) = .nx [some (.loc T.n), some (.int i), some (.loc S.length)] (S ++ [.lst ((above T i).map .int)]) := by
    rw [hw, show [D.int i] = ([] ++ [i] : List Int).map D.int from rfl, lp]; rfl
  have hf : frzOut (.ok (.loc S.length) (S ++ [.lst ((above T i).map .int)])) = .ok (.lst ((above T i).map .int)) (S ++ [.dead]) := by
    show (match (S ++ [Cell.lst ((above T i).map .int)])[S.length]? with
      | some (.lst ds) => Out.ok (D.lst ds) ((S ++ [Cell.lst ((above T i).map .int)]).set S.length .dead)
      | some (.dct ds) => Out.ok (D.dct ds) ((S ++ [Cell.lst ((above T i).map .int)]).set S.length .dead)
      | _ => Out.ok (D.loc S.length) (S ++ [Cell.lst ((above T i).map .int)])) = _
    rw [List.getElem?_concat_length]
    show Out.ok (D.lst ((above T i).map .int)) ((S ++ [Cell.lst ((above T i).map .int)]).set S.length .dead) = _
    rw [set_len]
  have hg := gc_app (S := S) (G := [.dead]) (d := .lst ((above T i).map .int)) (lo_ints _ _)
  generalize mWhile cAb bAb = M at lp' ⊢
  simp [k.ins, h1, lp', hf, hg]
theorem run_above_bad {S : Store} {T : Tr} (k : TOk S T) {i : Int} (hs : T.nd i = none) : g_Tree_above [.loc T.n, .int i] S = .exn "BadNumber" [] S := by
  rw [call_Tree_above]
  unfold m_Tree_above
  have h1 := run_need k i
  rw [if_neg (by rw [hs]; simp)] at h1
  simp [k.ins, h1]
end Dee

set_option maxRecDepth 100000
set_option maxHeartbeats 4000000
namespace Dee
open PySem PySem.Spec L2
/-! ### ways between nodes -/
structure Wf2 (T : Tr) : Prop extends Wf T where
  root : ∀ x ∈ T.nodes, x.par = none → x.k = 0
  has0 : (T.nd 0).isSome = true
theorem above_ne (T : Tr) (i : Int) : ∃ l, above T i = i :: l := by
  unfold above
  cases i.toNat with
  | zero => exact ⟨_, rfl⟩
  | succ f => exact ⟨_, rfl⟩
theorem above_suffix {T : Tr} (w : Wf T) : ∀ (f : Nat) (i : Int), i.toNat ≤ f → ∀ x ∈ above T i, ∃ pre, above T i = pre ++ above T x := by
  intro f
  induction f with
  | zero =>
    intro i h x hx
    have e := above_eq w (i := i)
    cases hp : T.par i with
    | none => rw [e, hp] at hx; rw [List.mem_singleton.mp hx]; exact ⟨[], rfl⟩
    | some p =>
      obtain ⟨y, hy, hyp⟩ := Option.bind_eq_some_iff.mp hp
      obtain ⟨m, e⟩ := nd_mem hy
      have := w.up y m p hyp
      omega
  | succ f ih =>
    intro i h x hx
    have e := above_eq w (i := i)
    cases hp : T.par i with
    | none => rw [e, hp] at hx; rw [List.mem_singleton.mp hx]; exact ⟨[], rfl⟩
    | some p =>
      rw [hp] at e
      rw [e] at hx
      rcases List.mem_cons.mp hx with rfl | hx
      · exact ⟨[], rfl⟩
      · obtain ⟨y, hy, hyp⟩ := Option.bind_eq_some_iff.mp hp
        obtain ⟨m, e2⟩ := nd_mem hy
        have := w.up y m p hyp
        obtain ⟨pre, e3⟩ := ih p (by omega) x hx
        exact ⟨i :: pre, by rw [e]; show i :: above T p = _; rw [e3]; rfl⟩
theorem above_desc {T : Tr} (w : Wf T) : ∀ (f : Nat) (i : Int), i.toNat ≤ f → (T.nd i).isSome = true → (above T i).Pairwise (· > ·) := by
  intro f
  induction f with
  | zero =>
    intro i h hs
    rw [above_eq w]
    cases hp : T.par i with
    | none => exact List.pairwise_singleton _ _
    | some p =>
      obtain ⟨y, hy, hyp⟩ := Option.bind_eq_some_iff.mp hp
      obtain ⟨m, e⟩ := nd_mem hy
      have := w.up y m p hyp
      omega
  | succ f ih =>
    intro i h hs
    rw [above_eq w]
    cases hp : T.par i with
    | none => exact List.pairwise_singleton _ _
    | some p =>
      obtain ⟨y, hy, hyp⟩ := Option.bind_eq_some_iff.mp hp
      obtain ⟨m, e⟩ := nd_mem hy
      have hu := w.up y m p hyp
      refine List.pairwise_cons.mpr ⟨fun j hj => ?_, ih p (by omega) hu.2.2⟩
      have := (above_mem w p.toNat p (Nat.le_refl _) hu.2.2 j hj).2.2
      show j < i
      omega
theorem above_zero {T : Tr} (w : Wf2 T) : ∀ (f : Nat) (i : Int), i.toNat ≤ f → (T.nd i).isSome = true → 0 ∈ above T i := by
  intro f
  induction f with
  | zero =>
    intro i h hs
    obtain ⟨y, hy⟩ := Option.isSome_iff_exists.mp hs
    obtain ⟨m, e⟩ := nd_mem hy
    have := w.pos y m
    have : i = 0 := by omega
    subst this
    obtain ⟨l, e⟩ := above_ne T 0
    rw [e]; exact List.mem_cons_self ..
  | succ f ih =>
    intro i h hs
    obtain ⟨y, hy⟩ := Option.isSome_iff_exists.mp hs
    obtain ⟨m, e⟩ := nd_mem hy
    rw [above_eq w.toWf]
    cases hp : y.par with
    | none =>
      have := w.root y m hp
      rw [show i = 0 by omega]; exact List.mem_cons_self ..
    | some p =>
      have hu := w.up y m p hp
      rw [par_of hy, hp]
      exact List.mem_cons_of_mem _ (ih p (by omega) hu.2.2)
structure Split (T : Tr) (i j : Int) (l : List Int) (b : Int) (r : List Int) : Prop where
  one : above T i = l ++ above T b
  two : above T j = r ++ above T b
  lo : ∀ x ∈ l, x ∉ above T j
  ro : ∀ x ∈ r, x ∉ above T i
theorem split_ex {T : Tr} (w : Wf2 T) {j : Int} (hj : (T.nd j).isSome = true) : ∀ (f : Nat) (i : Int), i.toNat ≤ f → (T.nd i).isSome = true → ∃ l b r, Split T i j l b r ∧ (T.nd b).isSome = true := by
  have here : ∀ i, (T.nd i).isSome = true → i ∈ above T j → ∃ l b r, Split T i j l b r ∧ (T.nd b).isSome = true := fun i hs h => by
    obtain ⟨r, e⟩ := above_suffix w.toWf _ j (Nat.le_refl _) i h
    refine ⟨[], i, r, ⟨rfl, e, (fun x z => by cases z), fun x hx hi => ?_⟩, hs⟩
    have d := above_desc w.toWf _ j (Nat.le_refl _) hj
    rw [e] at d
    have := (List.pairwise_append.mp d).2.2 x hx x hi
    exact absurd this (Int.lt_irrefl x)
  intro f
  induction f with
  | zero =>
    intro i h hs
    obtain ⟨y, hy⟩ := Option.isSome_iff_exists.mp hs
    obtain ⟨m, e⟩ := nd_mem hy
    have := w.pos y m
    have : i = 0 := by omega
    subst this
    exact here 0 hs (above_zero w _ j (Nat.le_refl _) hj)
  | succ f ih =>
    intro i h hs
    by_cases hin : i ∈ above T j
    · exact here i hs hin
    · obtain ⟨y, hy⟩ := Option.isSome_iff_exists.mp hs
      obtain ⟨m, e⟩ := nd_mem hy
      cases hp : y.par with
      | none =>
        have := w.root y m hp
        exact absurd (above_zero w _ j (Nat.le_refl _) hj) (by rw [show (0 : Int) = i by omega]; exact hin)
      | some p =>
        have hu := w.up y m p hp
        obtain ⟨l, b, r, sp, hb⟩ := ih p (by omega) hu.2.2
        have ea : above T i = i :: above T p := by rw [above_eq w.toWf, par_of hy, hp]
        refine ⟨i :: l, b, r, ⟨by rw [ea, sp.one]; rfl, sp.two, fun x hx => ?_, fun x hx hx2 => ?_⟩, hb⟩
        · rcases List.mem_cons.mp hx with rfl | hx
          · exact hin
          · exact sp.lo x hx
        · rw [ea] at hx2
          rcases List.mem_cons.mp hx2 with rfl | hx2
          · exact hin (by rw [sp.two]; exact List.mem_append_left _ hx)
          · exact sp.ro x hx hx2
theorem split_filter {T : Tr} {i j : Int} {l r : List Int} {b : Int} (sp : Split T i j l b r) :
    ((above T i).filter fun x => decide (x ∈ above T j)) = above T b ∧ ((above T i).filter fun x => decide (x ∉ above T j)) = l ∧ ((above T j).filter fun x => decide (x ∉ above T i)) = r := by
  refine ⟨?_, ?_, ?_⟩
  · rw [sp.one, List.filter_append, List.filter_eq_nil_iff.mpr (fun x hx => by simpa using sp.lo x hx), List.nil_append]
    exact List.filter_eq_self.mpr fun x hx => by rw [sp.two]; simp [hx]
  · rw [sp.one, List.filter_append, List.filter_eq_self.mpr (fun x hx => by simpa using sp.lo x hx), List.filter_eq_nil_iff.mpr (fun x hx => by rw [sp.two]; simp [hx]), List.append_nil]
  · rw [sp.two, List.filter_append, List.filter_eq_self.mpr (fun x hx => by simpa using sp.ro x hx), List.filter_eq_nil_iff.mpr (fun x hx => by rw [sp.one]; simp [hx]), List.append_nil]
theorem anyEq_ints (S : Store) (i : Int) (l : List Int) : anyEq S (.int i) (l.map .int) = some (decide (i ∈ l)) := by
  induction l with
  | nil => rfl
  | cons x l ih =>
    show (match eqD S 20 (.int x) (.int i), anyEq S (.int i) (l.map .int) with
      | some a, some b => some (a || b)
      | _, _ => none) = _
    rw [ih]
    show some (decide (x = i) || decide (i ∈ l)) = _
    congr 1
    by_cases h : x = i
    · subst h; simp
    · have h' : ¬ i = x := fun z => h z.symm
      simp [h, h']
theorem flDs_ints : ∀ l : List Int, flDs (l.map D.int) = some (l.map V.int)
  | [] => rfl
  | a :: l => by
    show (match flD (.int a), flDs (l.map D.int) with
      | some v, some vs => some (v :: vs)
      | _, _ => none) = _
    rw [flDs_ints l]; rfl
theorem index_ints (S : Store) (l pre post : List Int) (b : Int) (e : l = pre ++ b :: post) (h : b ∉ pre) : indexD (.lst (l.map .int)) [.int b] S = some (.int pre.length, S) := by
  show (match (some (l.map D.int)).bind flDs, flD (.int b) with
    | some vs, some y => (vs.findIdx? (fun z => eqV z y)).map fun j => (D.int (j : Nat), S)
    | _, _ => none) = _
  rw [Option.bind_some, flDs_ints]
  show ((l.map V.int).findIdx? (fun z => eqV z (.int b))).map _ = _
  have : (l.map V.int).findIdx? (fun z => eqV z (.int b)) = some pre.length := by
    subst e
    rw [List.findIdx?_map]
    rw [List.findIdx?_eq_some_iff_getElem]
    refine ⟨by simp, by simp [eqV], fun m hm => ?_⟩
    have hm2 : m < pre.length := hm
    have e : (pre ++ b :: post)[m]'(by simp; omega) = pre[m] := List.getElem_append_left hm2
    simp only [Function.comp, e]
    have hne : pre[m] ≠ b := fun z => h (by rw [← z]; exact List.getElem_mem hm2)
    simp [eqV, hne]
  rw [this]; rfl
end Dee

set_option maxRecDepth 100000
set_option maxHeartbeats 4000000
namespace Dee
open PySem PySem.Spec L2
theorem above_big {T : Tr} (w : Wf T) {i : Int} (hs : (T.nd i).isSome = true) : (above T i).length ≤ i.toNat + 1 := by
  have key : ∀ (f : Nat) (i : Int), i.toNat ≤ f → (T.nd i).isSome = true → (above T i).length ≤ i.toNat + 1 := by
    intro f
    induction f with
    | zero =>
      intro i h hs
      rw [above_eq w]
      cases hp : T.par i with
      | none => simp
      | some p =>
        obtain ⟨y, hy, hyp⟩ := Option.bind_eq_some_iff.mp hp
        obtain ⟨m, e⟩ := nd_mem hy
        have := w.up y m p hyp
        omega
    | succ f ih =>
      intro i h hs
      rw [above_eq w]
      cases hp : T.par i with
      | none => simp
      | some p =>
        obtain ⟨y, hy, hyp⟩ := Option.bind_eq_some_iff.mp hp
        obtain ⟨m, e⟩ := nd_mem hy
        have hu := w.up y m p hyp
        have := ih p (by omega) hu.2.2
        show (i :: above T p).length ≤ _
        rw [List.length_cons]; omega
  exact key _ i (Nat.le_refl _) hs
section
variable {S : Store} {T : Tr} (k : TOk S T)
include k
theorem run_path (w : Wf2 T) {i j b : Int} {l r : List Int} (hi : (T.nd i).isSome = true) (hj : (T.nd j).isSome = true) (bi : i ≤ 800000) (bj : j ≤ 800000) (sp : Split T i j l b r) :
    g_Tree_path [.loc T.n, .int i, .int j] S = .ok (.tup [.lst (l.map .int), .int b, .lst (r.reverse.map .int)]) S := by
  rw [call_Tree_path]
  unfold m_Tree_path
  have e1 := run_above k w.toWf hi bi
  have e2 := run_above k w.toWf hj bj
  have hm := above_big w.toWf hi
  obtain ⟨tl, hb⟩ := above_ne T b
  have hlc := mLc_filter (ts := .one 6) (vs := [6]) (mi := iAt (mVar 3)) (t := tVal (mBin (inD false) (mVar 6) (mVar 4))) (me := mVar 6) (δ := [some (.loc T.n), some (.int i), some (.int j), some (.lst ((above T i).map .int)), some (.lst ((above T j).map .int)), none, none]) (S := S) (d := .lst ((above T i).map .int)) (l := above T i) (g := D.int) (h := D.int) (p := fun x => decide (x ∈ above T j))
    (by simp) rfl (by omega) (by
      intro n hn
      refine ⟨_, rfl, ?_, fun _ => by simp [wipeD]⟩
      have : inD false (.int n) (.lst ((above T j).map .int)) S = some (.bl (decide (n ∈ above T j)), S) := by
        show (anyEq S (.int n) ((above T j).map .int)).map _ = _
        rw [anyEq_ints]; simp
      simp [wipeD, this])
  rw [(split_filter sp).1, hb] at hlc
  have i1 := index_ints S (above T i) l tl b (by rw [sp.one, hb]) (fun z => sp.lo b z (by rw [sp.two, hb]; simp))
  have i2 := index_ints S (above T j) r tl b (by rw [sp.two, hb]) (fun z => sp.ro b z (by rw [sp.one, hb]; simp))
  have k1 : ∀ ds, isK .lst S (.lst ds) = true := fun _ => rfl
  have c1 : cutL ((above T i).map D.int) none (some (l.length : Int)) = l.map .int := by
    rw [cut_to _ (by omega), sp.one, List.map_append]
    simp
  have c2 : cutL ((above T j).map D.int) none (some (r.length : Int)) = r.map .int := by
    rw [cut_to _ (by omega), sp.two, List.map_append]
    simp
  have rv : revD false (.lst (r.map .int)) S = some (.lst (r.map D.int).reverse, S) := rfl
  simp [k.ins, e1, e2, hlc, i1, i2, k1, c1, c2, atI0, rv]
theorem run_path_bad1 {i : Int} (hi : T.nd i = none) (j : D) : g_Tree_path [.loc T.n, .int i, j] S = .exn "BadNumber" [] S := by
  rw [call_Tree_path]
  unfold m_Tree_path
  have e1 := run_above_bad k hi
  simp [k.ins, e1]
theorem run_path_bad2 (w : Wf2 T) {i j : Int} (hi : (T.nd i).isSome = true) (bi : i ≤ 800000) (hj : T.nd j = none) : g_Tree_path [.loc T.n, .int i, .int j] S = .exn "BadNumber" [] S := by
  rw [call_Tree_path]
  unfold m_Tree_path
  have e1 := run_above k w.toWf hi bi
  have e2 := run_above_bad k hj
  simp [k.ins, e1, e2]
end
/-! ### the deeds between -/
def Tr.oth (T : Tr) (i : Int) : Option Deed := (T.nd i).bind (·.oth)
def Tr.dd (T : Tr) (i : Int) : Option Deed := (T.nd i).bind (·.deed)
theorem eq_encO (S : Store) (o : Option Deed) : eqD S 20 (encO o) .non = some o.isNone := by
  cases o with
  | none => rfl
  | some d => show eqD S 20 (encD d) .non = _; rw [enc_eq]; rfl
theorem any_encO (S : Store) (l : List (Option Deed)) : anyEq S .non (l.map encO) = some (l.any Option.isNone) := by
  induction l with
  | nil => rfl
  | cons x l ih =>
    show (match eqD S 20 (encO x) .non, anyEq S .non (l.map encO) with
      | some a, some b => some (a || b)
      | _, _ => none) = _
    rw [ih, eq_encO]; rfl
theorem run_between {S : Store} {T : Tr} (k : TOk S T) (w : Wf2 T) {i j b : Int} {l r : List Int} (hi : (T.nd i).isSome = true) (hj : (T.nd j).isSome = true) (bi : i ≤ 400000) (bj : j ≤ 400000) (sp : Split T i j l b r)
    (dl : Int → Deed) (hd : ∀ n ∈ r, T.dd n = some (dl n)) : g_Tree_between [.loc T.n, .int i, .int j] S =
      if (l.any fun n => (T.oth n).isNone) = true ∨ (r.any fun n => isSay (dl n)) = true then .exn "Stuck" [] S else .ok (.lst ((l.map T.oth ++ r.reverse.map T.dd).map encO)) S := by
  rw [call_Tree_between]
  unfold m_Tree_between
  have e1 := run_path k w hi hj (by omega) (by omega) sp
  have hm := above_big w.toWf hi
  have hm2 := above_big w.toWf hj
  have ll : l.length ≤ 400001 := by rw [sp.one, List.length_append] at hm; omega
  have lr : r.length ≤ 400001 := by rw [sp.two, List.length_append] at hm2; omega
  let δ : Dn := [some (.loc T.n), some (.int i), some (.int j), some (.lst (l.map .int)), some (.int b), some (.lst (r.reverse.map .int)), none, none]
  have nx : ∀ n, n ∈ l → ∃ x, T.nd n = some x := fun n hn => Option.isSome_iff_exists.mp (above_mem w.toWf _ i (Nat.le_refl _) hi n (by rw [sp.one]; exact List.mem_append_left _ hn)).1
  have ny : ∀ n, n ∈ r → ∃ x, T.nd n = some x := fun n hn => Option.isSome_iff_exists.mp (above_mem w.toWf _ j (Nat.le_refl _) hj n (by rw [sp.two]; exact List.mem_append_left _ hn)).1
  have h1 := mLc_map (i := 7) (mi := iAt (mVar 3)) (me := mFld "Node" "other" (mBin ixD (mFld "Tree" "nodes" (mVar 0)) (mVar 7))) (δ := δ) (S := S) (d := .lst (l.map .int)) (l := l) (g := D.int) (h := fun n => encO (T.oth n))
    (by simp [δ]) rfl (by omega) (by
      intro n hn
      obtain ⟨x, hx⟩ := nx n hn
      simp [δ, wipeD, k.ins, k.ix, hx, k.insN (nd_mem hx).1, Tr.oth])
  have h2 := mLc_map (i := 7) (mi := iAt (mVar 5)) (me := mFld "Node" "deed" (mBin ixD (mFld "Tree" "nodes" (mVar 0)) (mVar 7))) (δ := δ) (S := S) (d := .lst (r.reverse.map .int)) (l := r.reverse) (g := D.int) (h := fun n => encO (T.dd n))
    (by simp [δ]) rfl (by rw [List.length_reverse]; omega) (by
      intro n hn
      obtain ⟨x, hx⟩ := ny n (List.mem_reverse.mp hn)
      simp [δ, wipeD, k.ins, k.ix, hx, k.insN (nd_mem hx).1, Tr.dd])
  let L : List (Option Deed) := l.map T.oth ++ r.reverse.map T.dd
  let δ2 : Dn := [some (.loc T.n), some (.int i), some (.int j), some (.lst (l.map .int)), some (.int b), some (.lst (r.reverse.map .int)), some (.lst (L.map encO)), none]
  have h3 := mLc_map (i := 7) (mi := iAt (mVar 5)) (me := mBin eqO (mBin ixD (mFld "Node" "deed" (mBin ixD (mFld "Tree" "nodes" (mVar 0)) (mVar 7))) (mC (.int 0))) (mC (.str "say"))) (δ := δ2) (S := S) (d := .lst (r.reverse.map .int)) (l := r.reverse) (g := D.int) (h := fun n => .bl (isSay (dl n)))
    (by simp [δ2]) rfl (by rw [List.length_reverse]; omega) (by
      intro n hn
      obtain ⟨x, hx⟩ := ny n (List.mem_reverse.mp hn)
      have hdn := hd n (List.mem_reverse.mp hn)
      have hxd : x.deed = some (dl n) := by unfold Tr.dd at hdn; rw [hx] at hdn; exact hdn
      have hi0 : ixD (encO (some (dl n))) (.int 0) S = some (.str (tagD (dl n)), S) := by show ixD (encD (dl n)) _ _ = _; rw [enc_eq]; simp [atI0]
      have ht : decide (tagD (dl n) = "say") = isSay (dl n) := by cases dl n <;> simp [tagD, isSay]
      simp [δ2, wipeD, k.ins, k.ix, hx, k.insN (nd_mem hx).1, hxd, hi0, ← ht])
  have ha : addD false (.lst (l.map fun n => encO (T.oth n))) (.lst (r.reverse.map fun n => encO (T.dd n))) S = some (.lst (L.map encO), S) := by
    rw [o_addL, if_pos (by rw [List.length_map, List.length_map, List.length_reverse]; omega)]
    simp [L, outL, Function.comp_def]
  have hn : inD false .non (.lst (L.map encO)) S = some (.bl (L.any Option.isNone), S) := by
    show (anyEq S .non (L.map encO)).map _ = _
    rw [any_encO]; simp
  have hy : anyD [.lst (r.reverse.map fun n => .bl (isSay (dl n)))] S = some (.bl (r.any fun n => isSay (dl n)), S) := by
    show (match asBs (r.reverse.map fun n => D.bl (isSay (dl n))) with
      | some bs => some (D.bl (bs.any id), S)
      | none => none) = _
    rw [asBs_map]
    simp [List.any_map, List.any_reverse, Function.comp_def]
  have hL : L.any Option.isNone = l.any fun n => (T.oth n).isNone := by
    have : (r.reverse.map T.dd).any Option.isNone = false := by
      rw [List.any_eq_false]
      intro o ho
      obtain ⟨n, hn, rfl⟩ := List.mem_map.mp ho
      rw [hd n (List.mem_reverse.mp hn)]; simp
    simp only [L, List.any_append, this, Bool.or_false, List.any_map]
    rfl
  rw [hL] at hn
  simp only [δ, δ2] at h1 h2 h3
  show _ = if _ then _ else Out.ok (D.lst (L.map encO)) S
  clear_value L
  cases ha1 : (l.any fun n => (T.oth n).isNone) with
  | true =>
    rw [ha1] at hn
    simp [-List.map_reverse, k.ins, e1, h1, h2, ha, hn]
  | false =>
    rw [ha1] at hn
    cases ha2 : (r.any fun n => isSay (dl n)) with
    | true =>
      rw [ha2] at hy
      simp [-List.map_reverse, k.ins, e1, h1, h2, h3, ha, hn, hy]
    | false =>
      rw [ha2] at hy
      simp [-List.map_reverse, k.ins, e1, h1, h2, h3, ha, hn, hy]
end Dee

set_option maxRecDepth 100000
set_option maxHeartbeats 4000000
namespace Dee
open PySem PySem.Spec L2
/-! ### many deeds -/
def progAll : Board → List Deed → Option Board
  | b, [] => some b
  | b, d :: ds => (progDone b d).bind fun c => progAll c ds
theorem run_all_done {b b' : Board} {ds : List Deed} (ob : okB b) (od : ∀ d ∈ ds, okD d = true) (h : progAll b ds = some b') (S : Store) : g_all_done [.dct (encB b), .lst (ds.map encD)] S = .ok (.dct (encB b')) S := by
  rw [call_all_done]
  unfold m_all_done
  obtain ⟨δ', S', e, c, x, oc, hc, rfl, rfl⟩ := forN_list (it := .at_ (.lst (ds.map encD))) (g := gVar 2) (b := mAsg (mCall g_done (aCons (mVar 0) (aCons (mVar 2) (aNil)))) (gVar 0)) (l := ds) (f := encD)
    (fun i δ S' => ∃ c x, okB c ∧ progAll c (ds.drop i) = some b' ∧ δ = [some (.dct (encB c)), some (.lst (ds.map encD)), x] ∧ S' = S)
    (fun _ _ _ _ => rfl) (by
      rintro i d δ S1 hi ⟨c, x, oc, hc, rfl, rfl⟩
      have hlt : i < ds.length := by
        by_cases h : i < ds.length
        · exact h
        · rw [List.getElem?_eq_none (by omega)] at hi; cases hi
      have hd : ds.drop i = d :: ds.drop (i + 1) := by
        rw [List.drop_eq_getElem_cons hlt]
        rw [List.getElem?_eq_getElem hlt] at hi
        cases hi; rfl
      have hm : d ∈ ds := List.mem_of_getElem? hi
      rw [hd] at hc
      obtain ⟨c2, hp, hc2⟩ := Option.bind_eq_some_iff.mp hc
      have oc2 := okB_prog oc (od d hm) hp
      have b3 : ∀ S, g_done [.dct (encB c), encD d] S = .ok (.dct (encB c2)) S := fun S => by
        rw [run_done_prog c d S oc (okD_fit (od d hm)), if_pos (od d hm), hp]; rfl
      exact ⟨_, rfl, _, _, by simp [b3]; rfl, c2, _, oc2, hc2, rfl, rfl⟩) ds.length 0 [some (.dct (encB b)), some (.lst (ds.map encD)), none] S (by omega) ⟨b, none, ob, h, rfl, rfl⟩
  rw [List.drop_length] at hc
  cases hc
  have hcn : cntD S' (.at_ (.lst (ds.map encD))) = ds.length + 1 := by
    show (ds.map encD).length + 1 = _
    rw [List.length_map]
  simp [hcn, e]
/-! ### going -/
theorem run_go {S : Store} {T : Tr} {F : Reg} (own : Own S (trCells T ++ F)) {j : Int} {ds : List Deed} {b' : Board} (hb : g_Tree_between [.loc T.n, .int T.here, .int j] S = .ok (.lst (ds.map encD)) S) (ob : okB T.board) (od : ∀ d ∈ ds, okD d = true) (hp : progAll T.board ds = some b') :
    ∃ S', g_Tree_go [.loc T.n, .int j] S = .ok .non S' ∧ Own S' (trCells { T with board := b', here := j } ++ F) ∧ S'.length = S.length := by
  have k := own.tok
  have o1 : Own (S.set T.n (.ins "Tree" (trF { T with board := b' }))) (trCells { T with board := b' } ++ F) := Own.set own _
  have o2 : Own ((S.set T.n (.ins "Tree" (trF { T with board := b' }))).set T.n (.ins "Tree" (trF { T with board := b', here := j }))) (trCells { T with board := b', here := j } ++ F) := Own.set o1 _
  refine ⟨_, ?_, o2, by simp⟩
  have k1 := o1.tok
  have i1 := k1.ins
  dsimp only at i1
  have p1 : putD "here_board" (.dct (encB b')) (trF T) = trF { T with board := b' } := rfl
  have p2 : putD "here" (.int j) (trF { T with board := b' }) = trF { T with board := b', here := j } := rfl
  have l1 : ∀ T : Tr, (trF T).length < 1000 := fun T => by show 5 < 1000; decide
  have ea := run_all_done ob od hp S
  rw [call_Tree_go]
  unfold m_Tree_go
  generalize hS1 : S.set T.n (.ins "Tree" (trF { T with board := b' })) = S1 at *
  simp [k.ins, hb, ea, p1, p2, l1, hS1, i1]
theorem run_goX {S : Store} {T : Tr} (k : TOk S T) {j : Int} {c : Str} (hb : g_Tree_between [.loc T.n, .int T.here, .int j] S = .exn c [] S) : g_Tree_go [.loc T.n, .int j] S = .exn c [] S := by
  rw [call_Tree_go]
  unfold m_Tree_go
  simp [k.ins, hb]
/-! ### a new node -/
theorem set_two (S : Store) (c d c' : Cell) : (S ++ [c, d]).set S.length c' = S ++ [c', d] := by
  rw [List.set_append_right _ _ (Nat.le_refl _)]; simp
theorem run_newNode (S : Store) (a b c : D) : g_Node_init [.loc S.length, a, b, c] (S ++ [.ins "Node" []]) = .ok .non (S ++ [.ins "Node" [("origin", a), ("deed", b), ("other", c), ("comes", .loc (S.length + 1))], .lst []]) := by
  have hi : ∀ fs G, insOf (S ++ .ins "Node" fs :: G) (.loc S.length) = some (S.length, Str.ofString "Node", fs) := fun fs G => insOf_loc (by rw [List.getElem?_append_right (Nat.le_refl _)]; simp)
  have p1 : putD "origin" a [] = [(Str.ofString "origin", a)] := rfl
  have p2 : putD "deed" b [(Str.ofString "origin", a)] = [(Str.ofString "origin", a), (Str.ofString "deed", b)] := rfl
  have p3 : putD "other" c [(Str.ofString "origin", a), (Str.ofString "deed", b)] = [(Str.ofString "origin", a), (Str.ofString "deed", b), (Str.ofString "other", c)] := rfl
  have p4 : putD "comes" (.loc (S.length + 1)) [(Str.ofString "origin", a), (Str.ofString "deed", b), (Str.ofString "other", c)] = [(Str.ofString "origin", a), (Str.ofString "deed", b), (Str.ofString "other", c), (Str.ofString "comes", .loc (S.length + 1))] := rfl
  rw [call_Node_init]
  unfold m_Node_init
  simp [hi, p1, p2, p3, p4, set_len, set_two, outL]
def addKid (h k' : Int) (x : Nd) : Nd := if x.k = h then { x with kids := x.kids ++ [k'] } else x
theorem addKid_at {ns : List Nd} {h k' : Int} {x : Nd} (nd : (ns.map (·.k)).Nodup) (hx : x ∈ ns) (e : x.k = h) : ∃ a b, ns = a ++ x :: b ∧ ns.map (addKid h k') = a ++ { x with kids := x.kids ++ [k'] } :: b := by
  obtain ⟨a, b, rfl⟩ := List.append_of_mem hx
  rw [List.map_append, List.map_cons, List.nodup_append] at nd
  obtain ⟨n1, n2, n3⟩ := nd
  have n4 := List.nodup_cons.mp n2
  refine ⟨a, b, rfl, ?_⟩
  have ea : a.map (addKid h k') = a := by
    refine (List.map_congr_left fun y hy => ?_).trans (List.map_id a)
    have : y.k ≠ h := fun z => n3 y.k (List.mem_map_of_mem hy) x.k (List.mem_cons_self ..) (by rw [z, e])
    unfold addKid; rw [if_neg this]; rfl
  have eb : b.map (addKid h k') = b := by
    refine (List.map_congr_left fun y hy => ?_).trans (List.map_id b)
    have : y.k ≠ h := fun z => n4.1 (by rw [e, ← z]; exact List.mem_map_of_mem hy)
    unfold addKid; rw [if_neg this]; rfl
  rw [List.map_append, List.map_cons, ea, eb]
  unfold addKid
  rw [if_pos e]
def doT (T : Tr) (b' : Board) (d : Deed) (l c : Nat) : Tr :=
  { T with board := b', last := T.last + 1, here := T.last + 1, nodes := T.nodes.map (addKid T.here (T.last + 1)) ++ [{ k := T.last + 1, l := l, c := c, par := some T.here, deed := some d, oth := backP T.board d, kids := [] }] }
theorem put_new {ns : List Nd} {k' : Int} (h : ∀ x ∈ ns, x.k ≠ k') (l : Nat) : putL (ndK ns) (.inl k') (.loc l) = ndK ns ++ [(.inl k', .loc l)] := by
  unfold putL
  rw [if_neg]
  simp only [ndK, List.any_map, List.any_eq_true, not_exists, not_and]
  intro x hx
  simp only [Function.comp, decide_eq_true_eq]
  exact fun z => h x hx (Sum.inl.inj z)
theorem run_Tdo {S : Store} {T : Tr} {F : Reg} (own : Own S (trCells T ++ F)) (ob : okB T.board) {d : Deed} (od : okD d = true) {b' : Board} (hp : progDone T.board d = some b') (nd : (T.nodes.map (·.k)).Nodup) (hl : ∀ x ∈ T.nodes, x.k ≤ T.last) (hh : (T.nd T.here).isSome = true)
    (hk : T.nodes.length < 1000 ∧ ∀ x ∈ T.nodes, x.kids.length < 1000) :
    ∃ S' l c, g_Tree_do [.loc T.n, encD d] S = .ok (.int (T.last + 1)) S' ∧ Own S' (trCells (doT T b' d l c) ++ F) ∧ S.length ≤ S'.length := by
  obtain ⟨x, hx⟩ := Option.isSome_iff_exists.mp hh
  obtain ⟨xm, xk⟩ := nd_mem hx
  obtain ⟨na, nb, en, en2⟩ := addKid_at (k' := T.last + 1) nd xm xk
  have k := own.tok
  have eb : g_back [.dct (encB T.board), encD d] S = .ok (encO (backP T.board d)) S := by
    rw [run_back_prog T.board d S ob (okD_fit od), if_pos ⟨od, by rw [hp]; rfl⟩]
  have ed : g_done [.dct (encB T.board), encD d] S = .ok (.dct (encB b')) S := by
    rw [run_done_prog T.board d S ob (okD_fit od), if_pos od, hp]; rfl
  have l1 : ∀ T : Tr, (trF T).length < 1000 := fun T => by show 5 < 1000; decide
  -- the tree's own fields
  let T1 : Tr := { T with board := b' }
  let T2 : Tr := { T with board := b', last := T.last + 1 }
  have o1 : Own (S.set T.n (.ins "Tree" (trF T1))) (trCells T1 ++ F) := Own.set own _
  have p1 : putD "here_board" (.dct (encB b')) (trF T) = trF T1 := rfl
  generalize hS1 : S.set T.n (.ins "Tree" (trF T1)) = S1 at o1
  have o2 : Own (S1.set T.n (.ins "Tree" (trF T2))) (trCells T2 ++ F) := Own.set o1 _
  have p2 : putD "last" (.int (T.last + 1)) (trF T1) = trF T2 := rfl
  generalize hS2 : S1.set T.n (.ins "Tree" (trF T2)) = S2 at o2
  have len2 : S2.length = S.length := by rw [← hS2, ← hS1]; simp
  -- the node
  let y : Nd := { k := T.last + 1, l := S2.length, c := S2.length + 1, par := some T.here, deed := some d, oth := backP T.board d, kids := [] }
  have o3 : Own (S2 ++ [.ins "Node" (ndF y), .lst []]) (((S2.length + 1, Cell.lst []) :: (S2.length, .ins "Node" (ndF y)) :: trCells T2) ++ F) := by
    have h1 := o2.push (.ins "Node" (ndF y))
    have h2 := h1.push (.lst [])
    rw [List.length_append, List.length_singleton, List.append_assoc] at h2
    exact h2
  have en3 := run_newNode S2 (.int T.here) (encD d) (encO (backP T.board d))
  have en4 : g_Node_init [.loc S2.length, .int T.here, encD d, encO (backP T.board d)] (S2 ++ [.ins "Node" []]) = .ok .non (S2 ++ [.ins "Node" (ndF y), .lst []]) := en3
  generalize hS3 : S2 ++ [.ins "Node" (ndF y), .lst []] = S3 at o3 en4
  have len3 : S3.length = S.length + 2 := by rw [← hS3, List.length_append, len2]; rfl
  have o3' : Own S3 ((T.nl, .dct (ndK T.nodes)) :: ((S2.length + 1, Cell.lst []) :: (S2.length, .ins "Node" (ndF y)) :: (T.n, .ins "Tree" (trF T2)) :: (T.ml, .dct (mkK T.marks)) :: T.nodes.flatMap ndCells ++ F)) := o3.perm (by
    show List.Perm ((S2.length + 1, Cell.lst []) :: (S2.length, .ins "Node" (ndF y)) :: (T.n, .ins "Tree" (trF T2)) :: (T.nl, .dct (ndK T.nodes)) :: (T.ml, .dct (mkK T.marks)) :: T.nodes.flatMap ndCells ++ F) _
    (refine perm_cnt fun x => ?_; simp only [cnt_cons, cnt_app, cnt_nil, List.flatMap_append, List.flatMap_cons, List.flatMap_nil, List.map_append, List.map_cons, List.map_nil, List.cons_append, List.nil_append, List.append_assoc, List.append_nil]; try omega))
  have k3 : TOk S3 T2 := ⟨o3.get (by simp [trCells, T2]), o3.get (by simp [trCells, T2]), o3.get (by simp [trCells, T2]), fun z hz => by
    have h1 : Own S3 (trCells T2 ++ F) := Own.right (a := [(S2.length + 1, Cell.lst []), (S2.length, .ins "Node" (ndF y))]) (by simpa using o3)
    exact h1.tok.x z hz⟩
  -- the node is written down
  have o4 := o3'.set (.dct (ndK T.nodes ++ [(.inl (T.last + 1), .loc S2.length)]))
  have pn := put_new (k' := T.last + 1) (fun z hz => by have := hl z hz; omega) (ns := T.nodes) S2.length
  have c3 : cellK S3 (.loc T.nl) = some (T.nl, ndK T.nodes) := cellK_at k3.ns
  generalize hS4 : S3.set T.nl (.dct (ndK T.nodes ++ [(.inl (T.last + 1), .loc S2.length)])) = S4 at o4
  have len4 : S4.length = S.length + 2 := by rw [← hS4, List.length_set, len3]
  -- the parent learns of it
  have o4' : Own S4 ((x.c, .lst (x.kids.map .int)) :: ((x.l, .ins "Node" (ndF x)) :: (T.nl, .dct (ndK T.nodes ++ [(.inl (T.last + 1), .loc S2.length)])) :: (S2.length + 1, Cell.lst []) :: (S2.length, .ins "Node" (ndF y)) :: (T.n, .ins "Tree" (trF T2)) :: (T.ml, .dct (mkK T.marks)) :: na.flatMap ndCells ++ nb.flatMap ndCells ++ F)) := o4.perm (by
    rw [en]
    simp only [List.flatMap_append, List.flatMap_cons, ndCells]; (refine perm_cnt fun x => ?_; simp only [cnt_cons, cnt_app, cnt_nil, List.flatMap_append, List.flatMap_cons, List.flatMap_nil, List.map_append, List.map_cons, List.map_nil, List.cons_append, List.nil_append, List.append_assoc, List.append_nil]; try omega))
  have i4 : insOf S4 (.loc T.n) = some (T.n, Str.ofString "Tree", trF T2) := insOf_loc (o4'.get (n := T.n) (c := .ins "Tree" (trF T2)) (by simp))
  have x4 : insOf S4 (.loc x.l) = some (x.l, Str.ofString "Node", ndF x) := insOf_loc (o4'.get (n := x.l) (c := .ins "Node" (ndF x)) (by simp))
  have ix4 : ixD (.loc T.nl) (.int T.here) S4 = some (.loc x.l, S4) := by
    rw [ix_cellK (o4'.get (n := T.nl) (c := .dct (ndK T.nodes ++ [(.inl (T.last + 1), .loc S2.length)])) (by simp)), show ndK T.nodes ++ [(.inl (T.last + 1), .loc S2.length)] = ndK (T.nodes ++ [y]) by simp [ndK, y], lk_nodes, List.find?_append]
    have hx' : T.nodes.find? (fun x => decide (x.k = T.here)) = some x := hx
    rw [hx']; rfl
  have kl : isK .lst S4 (.loc x.c) = true := isK_lst (o4'.get (n := x.c) (c := .lst (x.kids.map .int)) (by simp))
  have ap4 := append_at (o4'.get (n := x.c) (c := .lst (x.kids.map .int)) (by simp)) (by rw [List.length_map]; have := hk.2 x xm; omega) (.int (T.last + 1))
  have o5 := o4'.set (.lst (x.kids.map .int ++ [.int (T.last + 1)]))
  generalize hS5 : S4.set x.c (.lst (x.kids.map .int ++ [.int (T.last + 1)])) = S5 at o5 ap4
  have len5 : S5.length = S.length + 2 := by rw [← hS5, List.length_set, len4]
  have i5 : insOf S5 (.loc T.n) = some (T.n, Str.ofString "Tree", trF T2) := insOf_loc (o5.get (n := T.n) (c := .ins "Tree" (trF T2)) (by simp))
  -- here
  let T' : Tr := doT T b' d S2.length (S2.length + 1)
  have o5' : Own S5 ((T.n, .ins "Tree" (trF T2)) :: ((T.nl, .dct (ndK T'.nodes)) :: (T.ml, .dct (mkK T.marks)) :: T'.nodes.flatMap ndCells ++ F)) := by
    have e1 : T'.nodes = na ++ { x with kids := x.kids ++ [T.last + 1] } :: nb ++ [y] := by
      show T.nodes.map (addKid T.here (T.last + 1)) ++ [y] = _
      rw [en2]
    have e2 : ndK T'.nodes = ndK T.nodes ++ [(.inl (T.last + 1), .loc S2.length)] := by
      rw [e1, en]; simp [ndK, y]
    rw [e2, e1]
    refine o5.perm ?_
    have e3 : ({ x with kids := x.kids ++ [T.last + 1] } : Nd).kids.map D.int = x.kids.map .int ++ [.int (T.last + 1)] := by simp
    have e4 : ndF { x with kids := x.kids ++ [T.last + 1] } = ndF x := rfl
    simp only [List.flatMap_append, List.flatMap_cons, List.flatMap_nil, ndCells, e3, e4]
    have e5 : y.kids.map D.int = [] := rfl
    have e6 : y.l = S2.length := rfl
    have e7 : y.c = S2.length + 1 := rfl
    simp only [e5, e6, e7]
    (refine perm_cnt fun x => ?_; simp only [cnt_cons, cnt_app, cnt_nil, List.flatMap_append, List.flatMap_cons, List.flatMap_nil, List.map_append, List.map_cons, List.map_nil, List.cons_append, List.nil_append, List.append_assoc, List.append_nil]; try omega)
  have o6 : Own (S5.set T.n (.ins "Tree" (trF T'))) (trCells T' ++ F) := o5'.set _
  have p6 : putD "here" (.int (T.last + 1)) (trF T2) = trF T' := rfl
  generalize hS6 : S5.set T.n (.ins "Tree" (trF T')) = S6 at o6
  have i6 : insOf S6 (.loc T.n) = some (T.n, Str.ofString "Tree", trF T') := o6.tok.ins
  refine ⟨S6, _, _, ?_, o6, by rw [← hS6, List.length_set, len5]; omega⟩
  have i1 : insOf S1 (.loc T.n) = some (T.n, Str.ofString "Tree", trF T1) := o1.tok.ins
  have i2 : insOf S2 (.loc T.n) = some (T.n, Str.ofString "Tree", trF T2) := o2.tok.ins
  have i3 : insOf S3 (.loc T.n) = some (T.n, Str.ofString "Tree", trF T2) := k3.ins
  have f1 : (trF T1).lookup (Str.ofString "last") = some (.int T.last) := rfl
  have f2 : (trF T2).lookup (Str.ofString "here") = some (.int T.here) := rfl
  have f3 : (trF T2).lookup (Str.ofString "nodes") = some (.loc T.nl) := rfl
  have f4 : (trF T2).lookup (Str.ofString "last") = some (.int (T.last + 1)) := rfl
  have f5 : (trF T').lookup (Str.ofString "last") = some (.int (T.last + 1)) := rfl
  have hlen : (ndK T.nodes).length < 1000000 := by unfold ndK; rw [List.length_map]; omega
  rw [call_Tree_do]
  unfold m_Tree_do
  simp [k.ins, eb, ed, p1, l1, hS1, i1, f1, p2, hS2, i2, f2, f3, f4, en4, i3, c3, keyD, hlen, pn, hS4, i4, ix4, x4, kl, ap4, i5, p6, hS6, i6, f5]
end Dee

set_option maxRecDepth 100000
set_option maxHeartbeats 4000000
namespace Dee
open PySem PySem.Spec L2
/-! ### a board made anew, its names in their order -/
def sortB (b : Board) : Board := (sortS (b.map (·.1))).map fun n => (n, (getB b n).getD (.num 0))
theorem sortB_keys (b : Board) : (sortB b).map (·.1) = sortS (b.map (·.1)) := by
  unfold sortB
  rw [List.map_map]
  exact (List.map_congr_left fun _ _ => rfl).trans (List.map_id _)
theorem getB_fun (l : List Str) (f : Str → Val) (n : Str) : getB (l.map fun m => (m, f m)) n = if n ∈ l then some (f n) else none := by
  induction l with
  | nil => rfl
  | cons m l ih =>
    rw [List.map_cons, getB_cons, ih]
    by_cases h : m = n
    · subst h; simp
    · have h' : ¬ n = m := fun z => h z.symm
      simp [h, h']
theorem sortB_sim (b : Board) : SimB (sortB b) b := fun n => by
  unfold sortB
  rw [getB_fun]
  by_cases h : n ∈ b.map (·.1)
  · rw [if_pos ((sortS_perm _).mem_iff.mpr h)]
    obtain ⟨v, hv⟩ := Option.isSome_iff_exists.mp (mem_names.mp h)
    rw [hv]; rfl
  · rw [if_neg fun z => h ((sortS_perm _).mem_iff.mp z)]
    cases hg : getB b n with
    | none => rfl
    | some v => exact absurd (mem_names.mpr (by rw [hg]; rfl)) h
theorem sortB_ok {b : Board} (ob : okB b) : okB (sortB b) := by
  refine ⟨fun p hp => ?_, ?_, ?_⟩
  · have : p.1 ∈ b.map (·.1) := by
      have : p.1 ∈ (sortB b).map (·.1) := List.mem_map_of_mem hp
      rw [sortB_keys] at this
      exact (sortS_perm _).mem_iff.mp this
    obtain ⟨n, hn, rfl⟩ := List.mem_map.mp hp
    obtain ⟨v, hv⟩ := Option.isSome_iff_exists.mp (mem_names.mp this)
    have hv : getB b n = some v := hv
    have := okB_get ob hv
    show wordS n = true ∧ okV ((getB b n).getD (.num 0)) = true
    rw [hv]; exact this
  · have : (sortB b).length = b.length := by
      rw [← List.length_map (f := (·.1)) (as := sortB b), sortB_keys, (sortS_perm _).length_eq, List.length_map]
    rw [this]; exact ob.2.1
  · rw [sortB_keys]; exact (sortS_perm _).nodup_iff.mpr ob.2.2
def wholes (b : Board) : List Deed := b.map fun p => .whole p.1 p.2
theorem all_wholes : ∀ (l c : Board), okB (c ++ l) → progAll c (wholes l) = some (c ++ l)
  | [], c, _ => by rw [List.append_nil]; rfl
  | p :: l, c, h => by
    have hn : getB c p.1 = none := by
      cases hg : getB c p.1 with
      | none => rfl
      | some v =>
        have h1 : p.1 ∈ c.map (·.1) := mem_names.mpr (by rw [hg]; rfl)
        have := h.2.2
        rw [List.map_append, List.nodup_append] at this
        exact absurd rfl (this.2.2 p.1 h1 p.1 (by simp))
    have hlen : c.length < 20 := by have := h.2.1; rw [List.length_append, List.length_cons] at this; omega
    have e : progDone c (.whole p.1 p.2) = some (c ++ [p]) := by
      show (if getB c p.1 = none ∧ c.length < 20 then some (putB c p.1 p.2) else none) = _
      rw [if_pos ⟨hn, hlen⟩]
      unfold putB; rw [hn]; rfl
    show (progDone c (.whole p.1 p.2)).bind _ = _
    rw [e]
    show progAll (c ++ [p]) (wholes l) = _
    rw [all_wholes l (c ++ [p]) (by rw [List.append_assoc]; exact h), List.append_assoc]; rfl
theorem okD_wholes {b : Board} (ob : okB b) : ∀ d ∈ wholes b, okD d = true := fun d hd => by
  obtain ⟨p, hp, rfl⟩ := List.mem_map.mp hd
  have := ob.1 p hp
  simp [okD, this.1, this.2]
theorem okB_nil : okB [] := ⟨(fun _ h => by cases h), by decide, List.nodup_nil⟩
/-- the board that a history or a tree begins with -/
theorem run_begin {b : Board} (ob : okB b) (S : Store) : g_all_done [.dct [], .lst ((wholes (sortB b)).map encD)] S = .ok (.dct (encB (sortB b))) S :=
  run_all_done okB_nil (okD_wholes (sortB_ok ob)) (all_wholes (sortB b) [] (by rw [List.nil_append]; exact sortB_ok ob)) S
/-- the deeds that make it, as they are made -/
theorem mk_wholes {b : Board} (ob : okB b) (i : Nat) (j : Nat) (δ : Dn) (S : Store) (hb : δ[i]? = some (some (.dct (encB b)))) (hi : i ≠ j) (hj : j < δ.length) (mi : MI) (hm : mi δ S = .ok (.at_ (.lst ((sortS (b.map (·.1))).map .str))) S) :
    mLc false mi [j] (TgS.one j).g tYesD (mTup (aCons (mC (.str "whole")) (aCons (mVar j) (aCons (mBin ixD (mVar i) (mVar j)) (aNil))))) δ S = .ok (.lst ((wholes (sortB b)).map encD)) S := by
  have h1 := mLc_map (i := j) (mi := mi) (me := mTup (aCons (mC (.str "whole")) (aCons (mVar j) (aCons (mBin ixD (mVar i) (mVar j)) (aNil))))) (δ := δ) (S := S) (l := sortS (b.map (·.1))) (g := D.str) (h := fun n => encD (.whole n ((getB b n).getD (.num 0)))) hm rfl
    (by rw [(sortS_perm _).length_eq, List.length_map]; have := ob.2.1; omega) (by
      intro n hn
      obtain ⟨v, hv⟩ := Option.isSome_iff_exists.mp (mem_names.mp ((sortS_perm _).mem_iff.mp hn))
      have e1 : ((wipeD δ [j]).set j (some (.str n)))[j]? = some (some (.str n)) := by
        rw [List.getElem?_set_self (by simpa [wipeD] using hj)]
      have e2 : ((wipeD δ [j]).set j (some (.str n)))[i]? = some (some (.dct (encB b))) := by
        rw [List.getElem?_set_ne (fun z => hi z.symm)]
        have : (wipeD δ [j])[i]? = δ[i]? := by
          simp [wipeD]
          rw [List.getElem?_set_ne (fun z => hi z.symm)]
        rw [this, hb]
      simp [e1, e2, hv, encD])
  rw [h1]
  unfold wholes sortB
  rw [List.map_map, List.map_map]; rfl
/-! ### a new tree -/
theorem set_at (S l : Store) (i : Nat) (c : Cell) : (S ++ l).set (S.length + i) c = S ++ l.set i c := by
  rw [List.set_append_right _ _ (Nat.le_add_right _ _)]; simp
theorem get_at (S l : Store) (i : Nat) : (S ++ l)[S.length + i]? = l[i]? := by
  rw [List.getElem?_append_right (Nat.le_add_right _ _)]; simp
theorem get_at0 (S l : Store) : (S ++ l)[S.length]? = l[0]? := get_at S l 0
theorem set_at0 (S l : Store) (c : Cell) : (S ++ l).set S.length c = S ++ l.set 0 c := set_at S l 0 c
def newT (n : Nat) (b : Board) : Tr := { n := n, nl := n + 1, ml := n + 4, board := sortB b, nodes := [{ k := 0, l := n + 2, c := n + 3, par := none, deed := none, oth := none, kids := [] }], here := 0, last := 0, marks := [] }
theorem run_newTree {b : Board} (ob : okB b) (S : Store) : g_Tree_init [.loc S.length, .dct (encB b)] (S ++ [.ins "Tree" []]) = .ok .non (S ++ [.ins "Tree" (trF (newT S.length b)), .dct [(.inl 0, .loc (S.length + 2))], .ins "Node" [("origin", .non), ("deed", .non), ("other", .non), ("comes", .loc (S.length + 3))], .lst [], .dct []]) := by
  rw [call_Tree_init]
  unfold m_Tree_init
  have e1 := fun S => run_look_board b ob S
  have hi : ∀ fs G, insOf (S ++ .ins "Tree" fs :: G) (.loc S.length) = some (S.length, Str.ofString "Tree", fs) := fun fs G => insOf_loc (by rw [get_at0]; rfl)
  have hk : ∀ S, isK .dct S (.dct (encB b)) = true := fun _ => rfl
  have hkd : ∀ S, keysD (.dct (encB b)) [] S = some (.keys (.dct (encB b)), S) := fun _ => rfl
  have hso : ∀ S : Store, sortedD false [.keys (.dct (encB b))] S = some (.lst ((sortS (b.map (·.1))).map D.str), S) := fun S => by
    have h64 : b.length < 64 := by have := ob.2.1; omega
    simp [sortedD, keys_enc, h64, asK, outL]
  have hlc := fun S' => mk_wholes ob 1 2 [some (.loc S.length), some (.dct (encB b)), none] S' rfl (by decide) (by show 2 < 3; decide) (iAt (mApp (sortedD false) (aCons (mMeth .dct keysD (mVar 1) aNil) (aNil)))) (by simp [hk, hkd, hso])
  have hbg := fun S' => run_begin ob S'
  have p1 : putD "here_board" (.dct (encB (sortB b))) [] = [(Str.ofString "here_board", .dct (encB (sortB b)))] := rfl
  have p2 : putD "nodes" (.loc (S.length + 1)) [(Str.ofString "here_board", .dct (encB (sortB b)))] = [(Str.ofString "here_board", .dct (encB (sortB b))), (Str.ofString "nodes", .loc (S.length + 1))] := rfl
  have p3 : putD "here" (.int 0) [(Str.ofString "here_board", .dct (encB (sortB b))), (Str.ofString "nodes", .loc (S.length + 1))] = [(Str.ofString "here_board", .dct (encB (sortB b))), (Str.ofString "nodes", .loc (S.length + 1)), (Str.ofString "here", .int 0)] := rfl
  have p4 : putD "last" (.int 0) [(Str.ofString "here_board", .dct (encB (sortB b))), (Str.ofString "nodes", .loc (S.length + 1)), (Str.ofString "here", .int 0)] = [(Str.ofString "here_board", .dct (encB (sortB b))), (Str.ofString "nodes", .loc (S.length + 1)), (Str.ofString "here", .int 0), (Str.ofString "last", .int 0)] := rfl
  have p5 : putD "marked" (.loc (S.length + 4)) [(Str.ofString "here_board", .dct (encB (sortB b))), (Str.ofString "nodes", .loc (S.length + 1)), (Str.ofString "here", .int 0), (Str.ofString "last", .int 0)] = trF (newT S.length b) := rfl
  have f1 : ([(Str.ofString "here_board", D.dct (encB (sortB b))), (Str.ofString "nodes", D.loc (S.length + 1))] : List (Str × D)).lookup (Str.ofString "nodes") = some (.loc (S.length + 1)) := rfl
  have nn := fun fs => run_newNode (S ++ [.ins "Tree" fs, .dct []]) .non .non .non
  have ll : ∀ a b : Cell, (S ++ [a, b]).length = S.length + 2 := fun a b => by simp
  simp only [ll, List.append_assoc, List.cons_append, List.nil_append] at nn
  have ck : ∀ a kvs G, cellK (S ++ a :: .dct kvs :: G) (.loc (S.length + 1)) = some (S.length + 1, kvs) := fun a kvs G => cellK_at (by rw [get_at]; rfl)
  have l3 : ∀ a b c d : Cell, (S ++ [a, b, c, d]).length = S.length + 4 := fun a b c d => by simp
  simp [e1, hi, hlc, hbg, p1, p2, p3, p4, p5, f1, set_at0, set_at, ll, l3, nn, ck, outK, keyD, putL]
end Dee

set_option maxRecDepth 100000
set_option maxHeartbeats 4000000
namespace Dee
open PySem PySem.Spec L2
theorem new_own {S : Store} {F : Reg} (own : Own S F) (b : Board) : Own (S ++ [.ins "Tree" (trF (newT S.length b)), .dct [(.inl 0, .loc (S.length + 2))], .ins "Node" [("origin", .non), ("deed", .non), ("other", .non), ("comes", .loc (S.length + 3))], .lst [], .dct []]) (trCells (newT S.length b) ++ F) := by
  have o1 := own.push (.ins "Tree" (trF (newT S.length b)))
  have o2 := o1.push (.dct [(.inl 0, .loc (S.length + 2))])
  have o3 := o2.push (.ins "Node" [("origin", .non), ("deed", .non), ("other", .non), ("comes", .loc (S.length + 3))])
  have o4 := o3.push (.lst [])
  have o5 := o4.push (.dct [])
  simp only [List.length_append, List.length_singleton, List.append_assoc, List.cons_append, List.nil_append, List.length_cons, List.length_nil, Nat.zero_add, Nat.add_assoc, Nat.reduceAdd] at o5
  refine o5.perm ?_
  show List.Perm _ ((S.length, .ins "Tree" (trF (newT S.length b))) :: (S.length + 1, .dct [(.inl 0, .loc (S.length + 2))]) :: (S.length + 4, .dct []) :: (S.length + 2, .ins "Node" [("origin", .non), ("deed", .non), ("other", .non), ("comes", .loc (S.length + 3))]) :: (S.length + 3, .lst []) :: F)
  (refine perm_cnt fun x => ?_; simp only [cnt_cons, cnt_app, cnt_nil, List.flatMap_append, List.flatMap_cons, List.flatMap_nil, List.map_append, List.map_cons, List.map_nil, List.cons_append, List.nil_append, List.append_assoc, List.append_nil]; try omega)
/-! ### a tree beside the law's own lists -/
structure Coup (T : Tr) (bs : List Board) (ps : List (Option Nat)) : Prop where
  ln : T.nodes.length = bs.length
  lp : ps.length = bs.length
  pos : 0 < bs.length
  last : T.last = (bs.length : Int) - 1
  here : ∃ h : Nat, T.here = h ∧ h < bs.length ∧ SimB T.board (bs.getD h [])
  ob : okB T.board
  obs : ∀ b ∈ bs, okB b
  nod : ∀ (i : Nat) (x : Nd), T.nodes[i]? = some x → x.k = i ∧ x.par = (ps.getD i none).map Int.ofNat ∧ x.kids.length ≤ bs.length ∧ (i = 0 → ps.getD i none = none) ∧ (i ≠ 0 → ∃ (p : Nat) (d : Deed), p < i ∧ ps.getD i none = some p ∧ x.deed = some d ∧ okD d = true ∧ x.oth = backP (bs.getD p []) d ∧ lawDone (bs.getD p []) d = some (bs.getD i []))
theorem getD_mem {α : Type} {l : List α} {i : Nat} (h : i < l.length) (d : α) : l.getD i d ∈ l := by
  rw [List.getD_eq_getElem?_getD, List.getElem?_eq_getElem h]; exact List.getElem_mem h
section
variable {T : Tr} {bs : List Board} {ps : List (Option Nat)} (c : Coup T bs ps)
include c
theorem Coup.nd_at {i : Nat} {x : Nd} (h : T.nodes[i]? = some x) : T.nd (i : Int) = some x := by
  have hk := (c.nod i x h).1
  have hm := List.mem_of_getElem? h
  have hs : (T.nodes.find? fun y => decide (y.k = (i : Int))).isSome = true := by
    rw [List.find?_isSome]; exact ⟨x, hm, by simpa using hk⟩
  obtain ⟨y, hy⟩ := Option.isSome_iff_exists.mp hs
  have hy' : T.nd (i : Int) = some y := hy
  obtain ⟨ym, yk⟩ := nd_mem hy'
  obtain ⟨j, hj⟩ := List.getElem?_of_mem ym
  have := (c.nod j y hj).1
  have : j = i := by omega
  subst this
  rw [h] at hj; cases hj
  exact hy'
theorem Coup.nd_lt {i : Nat} (h : i < bs.length) : ∃ x, T.nodes[i]? = some x ∧ T.nd (i : Int) = some x := by
  have : i < T.nodes.length := by rw [c.ln]; exact h
  exact ⟨_, List.getElem?_eq_getElem this, c.nd_at (List.getElem?_eq_getElem this)⟩
theorem Coup.nd_some {i : Int} {x : Nd} (h : T.nd i = some x) : ∃ j : Nat, i = j ∧ j < bs.length ∧ T.nodes[j]? = some x := by
  obtain ⟨m, e⟩ := nd_mem h
  obtain ⟨j, hj⟩ := List.getElem?_of_mem m
  have hk := (c.nod j x hj).1
  refine ⟨j, by omega, ?_, hj⟩
  rw [← c.ln]
  exact (List.getElem?_eq_some_iff.mp hj).1
theorem Coup.nd_iff {i : Int} : (T.nd i).isSome = true ↔ 0 ≤ i ∧ i < bs.length := by
  constructor
  · intro h
    obtain ⟨x, hx⟩ := Option.isSome_iff_exists.mp h
    obtain ⟨j, e, hj, _⟩ := c.nd_some hx
    omega
  · rintro ⟨h0, h1⟩
    obtain ⟨x, _, hx⟩ := c.nd_lt (i := i.toNat) (by omega)
    rw [show ((i.toNat : Nat) : Int) = i by omega] at hx
    rw [hx]; rfl
theorem Coup.wf : Wf2 T where
  pos := fun x hx => by
    obtain ⟨j, hj⟩ := List.getElem?_of_mem hx
    have := (c.nod j x hj).1
    omega
  up := fun x hx p hp => by
    obtain ⟨j, hj⟩ := List.getElem?_of_mem hx
    obtain ⟨h1, h2, _, h3, h4⟩ := c.nod j x hj
    have hl : j < bs.length := by rw [← c.ln]; exact (List.getElem?_eq_some_iff.mp hj).1
    by_cases h0 : j = 0
    · rw [h2, h3 h0] at hp; cases hp
    · obtain ⟨q, d, hq, e, _⟩ := h4 h0
      rw [h2, e] at hp
      cases hp
      exact ⟨Int.natCast_nonneg _, by rw [h1]; exact Int.ofNat_lt.mpr hq, (c.nd_iff).mpr ⟨Int.natCast_nonneg _, Int.ofNat_lt.mpr (by omega)⟩⟩
  root := fun x hx hp => by
    obtain ⟨j, hj⟩ := List.getElem?_of_mem hx
    obtain ⟨h1, h2, _, h3, h4⟩ := c.nod j x hj
    by_cases h0 : j = 0
    · rw [h1, h0]; rfl
    · obtain ⟨q, d, hq, e, _⟩ := h4 h0
      rw [h2, e] at hp; cases hp
  has0 := (c.nd_iff).mpr ⟨Int.le_refl _, by have := c.pos; omega⟩
theorem Coup.keys : (T.nodes.map (·.k)).Nodup := by
  have : T.nodes.map (·.k) = (List.range T.nodes.length).map Int.ofNat := by
    refine List.ext_getElem? fun i => ?_
    rw [List.getElem?_map, List.getElem?_map]
    cases h : T.nodes[i]? with
    | none =>
      rw [List.getElem?_eq_none (by rw [List.length_range]; exact List.getElem?_eq_none_iff.mp h)]; rfl
    | some x =>
      have hl := (List.getElem?_eq_some_iff.mp h).1
      rw [List.getElem?_eq_getElem (by rw [List.length_range]; exact hl), List.getElem_range]
      show some x.k = some (Int.ofNat i)
      rw [(c.nod i x h).1]; rfl
  rw [this]
  exact List.Pairwise.map Int.ofNat (fun a b h z => h (Int.ofNat.inj z)) List.nodup_range
end
/-! ### many deeds, one by one -/
theorem progAll_app : ∀ (xs ys : List Deed) (c : Board), progAll c (xs ++ ys) = (progAll c xs).bind fun d => progAll d ys
  | [], _, _ => rfl
  | x :: xs, ys, c => by
    show (progDone c x).bind _ = ((progDone c x).bind _).bind _
    cases progDone c x with
    | none => rfl
    | some d => exact progAll_app xs ys d
def lawAll : Board → List Deed → Option Board
  | b, [] => some b
  | b, d :: ds => (lawDone b d).bind fun c => lawAll c ds
theorem law_all_sim : ∀ {ds : List Deed} {c e c' : Board}, SimB e c → okB e → okB c → (∀ d ∈ ds, okD d = true) → progAll c ds = some c' → ∃ e', lawAll e ds = some e' ∧ SimB e' c' ∧ okB e'
  | [], c, e, c', h, oe, oc, _, hp => by cases hp; exact ⟨e, rfl, h, oe⟩
  | d :: ds, c, e, c', h, oe, oc, od, hp => by
    obtain ⟨c2, h1, h2⟩ := Option.bind_eq_some_iff.mp hp
    obtain ⟨e2, g1, g2⟩ := (law_prog_sim h oe oc d).symm.of_some h1
    have o1 := okB_prog oc (od d (by simp)) h1
    have o2 := okB_law oe (od d (by simp)) g1
    obtain ⟨e', k1, k2, k3⟩ := law_all_sim (SimB.symm g2) o2 o1 (fun x hx => od x (List.mem_cons_of_mem _ hx)) h2
    exact ⟨e', by show (lawDone e d).bind _ = _; rw [g1]; exact k1, k2, k3⟩
section
variable {T : Tr} {bs : List Board} {ps : List (Option Nat)} (c : Coup T bs ps)
include c
/-- a node that has one above it -/
theorem Coup.step {i : Nat} {p : Int} (hp : T.par (i : Int) = some p) : ∃ (q : Nat) (d : Deed), p = q ∧ q < i ∧ i < bs.length ∧ T.dd (i : Int) = some d ∧ okD d = true ∧ T.oth (i : Int) = backP (bs.getD q []) d ∧ lawDone (bs.getD q []) d = some (bs.getD i []) := by
  obtain ⟨x, hx, hxp⟩ := Option.bind_eq_some_iff.mp hp
  obtain ⟨j, e, hj, hn⟩ := c.nd_some hx
  have : j = i := by omega
  subst this
  obtain ⟨h1, h2, _, h3, h4⟩ := c.nod j x hn
  by_cases h0 : j = 0
  · rw [h2, h3 h0] at hxp; cases hxp
  · obtain ⟨q, d, hq, e2, e3, e4, e5, e6⟩ := h4 h0
    rw [h2, e2] at hxp
    cases hxp
    exact ⟨q, d, rfl, hq, hj, by unfold Tr.dd; rw [hx]; exact e3, e4, by unfold Tr.oth; rw [hx]; exact e5, e6⟩
theorem Coup.board {i : Nat} (h : i < bs.length) : okB (bs.getD i []) := c.obs _ (getD_mem h _)
/-- back up: what each node's deed is taken back by -/
theorem up_walk {b : Nat} : ∀ (f i : Nat) (l : List Int) (e : Board), i ≤ f → i < bs.length → above T (i : Int) = l ++ above T (b : Int) → SimB e (bs.getD i []) → okB e → (∀ n ∈ l, (T.oth n).isSome = true) →
    ∃ es e', l.map T.oth = es.map some ∧ (∀ d ∈ es, okD d = true ∧ ∀ s, d ≠ .say s) ∧ progAll e es = some e' ∧ SimB e' (bs.getD b []) ∧ okB e' := by
  intro f
  induction f with
  | zero =>
    intro i l e hf hi ha hs oe ho
    have hi0 : i = 0 := by omega
    subst hi0
    cases l with
    | nil =>
      obtain ⟨t1, a1⟩ := above_ne T ((0 : Nat) : Int)
      obtain ⟨t2, a2⟩ := above_ne T (b : Int)
      rw [a1, a2] at ha
      have : ((0 : Nat) : Int) = b := (List.cons.inj ha).1
      have hb : b = 0 := by omega
      subst hb
      exact ⟨[], e, rfl, (fun d z => by cases z), rfl, hs, oe⟩
    | cons n l =>
      have h1 := above_eq c.wf.toWf (i := ((0 : Nat) : Int))
      cases hp : T.par ((0 : Nat) : Int) with
      | none =>
        rw [hp] at h1
        rw [h1] at ha
        obtain ⟨t2, a2⟩ := above_ne T (b : Int)
        rw [a2] at ha
        have := (List.cons.inj ha).2
        exact absurd this (by simp)
      | some p =>
        obtain ⟨q, d, _, hq, _⟩ := c.step hp
        omega
  | succ f ih =>
    intro i l e hf hi ha hs oe ho
    cases l with
    | nil =>
      obtain ⟨t1, a1⟩ := above_ne T (i : Int)
      obtain ⟨t2, a2⟩ := above_ne T (b : Int)
      rw [a1, a2] at ha
      have : (i : Int) = b := (List.cons.inj ha).1
      have hb : b = i := by omega
      subst hb
      exact ⟨[], e, rfl, (fun d z => by cases z), rfl, hs, oe⟩
    | cons n l =>
      have h1 := above_eq c.wf.toWf (i := (i : Int))
      cases hp : T.par (i : Int) with
      | none =>
        rw [hp] at h1
        rw [h1] at ha
        obtain ⟨t2, a2⟩ := above_ne T (b : Int)
        rw [a2] at ha
        have := (List.cons.inj ha).2
        exact absurd this (by simp)
      | some p =>
        obtain ⟨q, d, rfl, hq, _, hd, od, hoth, hl⟩ := c.step hp
        rw [hp] at h1
        rw [h1] at ha
        obtain ⟨rfl, ha2⟩ := List.cons.inj ha
        have obq := c.board (i := q) (by omega)
        have obi := c.board hi
        have hos := ho i (by simp)
        rw [hoth] at hos
        obtain ⟨e1, he1⟩ := Option.isSome_iff_exists.mp hos
        obtain ⟨b1, hb1, hb2⟩ := (law_prog (bs.getD q []) d).of_some hl
        obtain ⟨o1, o2, o3⟩ := back_ok obq od hb1 he1
        have ob1 := okB_prog obq od hb1
        have s1 := (prog_sim (hs.trans hb2) oe ob1 e1).trans o3
        obtain ⟨e2, g1, g2⟩ := s1.symm.of_some rfl
        have oe2 := okB_prog oe o1 g1
        obtain ⟨es, e', k1, k2, k3, k4, k5⟩ := ih q l e2 (by omega) (by omega) ha2 (SimB.symm g2) oe2 (fun n hn => ho n (List.mem_cons_of_mem _ hn))
        refine ⟨e1 :: es, e', ?_, ?_, ?_, k4, k5⟩
        · rw [List.map_cons, List.map_cons, k1, hoth, he1]
        · intro x hx
          rcases List.mem_cons.mp hx with rfl | hx
          · exact ⟨o1, o2⟩
          · exact k2 x hx
        · show (progDone e e1).bind _ = _
          rw [g1]; exact k3
/-- and down: the deeds themselves -/
theorem down_walk {b : Nat} : ∀ (f j : Nat) (r : List Int) (e : Board), j ≤ f → j < bs.length → above T (j : Int) = r ++ above T (b : Int) → SimB e (bs.getD b []) → okB e →
    ∃ ds e', r.reverse.map T.dd = ds.map some ∧ (∀ d ∈ ds, okD d = true) ∧ progAll e ds = some e' ∧ SimB e' (bs.getD j []) ∧ okB e' := by
  intro f
  induction f with
  | zero =>
    intro i l e hf hi ha hs oe
    have hi0 : i = 0 := by omega
    subst hi0
    cases l with
    | nil =>
      obtain ⟨t1, a1⟩ := above_ne T ((0 : Nat) : Int)
      obtain ⟨t2, a2⟩ := above_ne T (b : Int)
      rw [a1, a2] at ha
      have : ((0 : Nat) : Int) = b := (List.cons.inj ha).1
      have hb : b = 0 := by omega
      subst hb
      exact ⟨[], e, rfl, (fun d z => by cases z), rfl, hs, oe⟩
    | cons n l =>
      have h1 := above_eq c.wf.toWf (i := ((0 : Nat) : Int))
      cases hp : T.par ((0 : Nat) : Int) with
      | none =>
        rw [hp] at h1
        rw [h1] at ha
        obtain ⟨t2, a2⟩ := above_ne T (b : Int)
        rw [a2] at ha
        have := (List.cons.inj ha).2
        exact absurd this (by simp)
      | some p =>
        obtain ⟨q, d, _, hq, _⟩ := c.step hp
        omega
  | succ f ih =>
    intro i l e hf hi ha hs oe
    cases l with
    | nil =>
      obtain ⟨t1, a1⟩ := above_ne T (i : Int)
      obtain ⟨t2, a2⟩ := above_ne T (b : Int)
      rw [a1, a2] at ha
      have : (i : Int) = b := (List.cons.inj ha).1
      have hb : b = i := by omega
      subst hb
      exact ⟨[], e, rfl, (fun d z => by cases z), rfl, hs, oe⟩
    | cons n l =>
      have h1 := above_eq c.wf.toWf (i := (i : Int))
      cases hp : T.par (i : Int) with
      | none =>
        rw [hp] at h1
        rw [h1] at ha
        obtain ⟨t2, a2⟩ := above_ne T (b : Int)
        rw [a2] at ha
        have := (List.cons.inj ha).2
        exact absurd this (by simp)
      | some p =>
        obtain ⟨q, d, rfl, hq, _, hd, od, hoth, hl⟩ := c.step hp
        rw [hp] at h1
        rw [h1] at ha
        obtain ⟨rfl, ha2⟩ := List.cons.inj ha
        have obq := c.board (i := q) (by omega)
        obtain ⟨ds, e1, k1, k2, k3, k4, k5⟩ := ih q l e (by omega) (by omega) ha2 hs oe
        obtain ⟨e2, g1, g2⟩ := (law_prog_sim (SimB.symm k4) obq k5 d).of_some hl
        have oe2 := okB_prog k5 od g1
        refine ⟨ds ++ [d], e2, ?_, ?_, ?_, SimB.symm g2, oe2⟩
        · rw [List.reverse_cons, List.map_append, k1, List.map_append, List.map_cons, List.map_nil, hd]; rfl
        · intro x hx
          rcases List.mem_append.mp hx with hx | hx
          · exact k2 x hx
          · rw [List.mem_singleton.mp hx]; exact od
        · rw [progAll_app, k3]
          show (progDone e1 d).bind _ = _
          rw [g1]; rfl
end
end Dee

set_option maxRecDepth 100000
set_option maxHeartbeats 4000000
namespace Dee
open PySem PySem.Spec L2
theorem map_some_inj : ∀ {a b : List Deed}, a.map some = b.map some → a = b
  | [], [], _ => rfl
  | [], _ :: _, h => by cases h
  | _ :: _, [], h => by cases h
  | x :: a, y :: b, h => by
    rw [List.map_cons, List.map_cons] at h
    obtain ⟨h1, h2⟩ := List.cons.inj h
    rw [Option.some.inj h1, map_some_inj h2]
/-- something was said on the way between -/
def saidT (T : Tr) (l r : List Int) : Prop := (l.any fun n => (T.oth n).isNone) = true ∨ (r.any fun n => ((T.dd n).map isSay).getD false) = true
theorem coup_between {S : Store} {T : Tr} {bs : List Board} {ps : List (Option Nat)} (k : TOk S T) (c : Coup T bs ps) (hn : bs.length ≤ 400000) {i j : Nat} (hi : i < bs.length) (hj : j < bs.length) :
    ∃ (l : List Int) (b : Nat) (r : List Int), Split T (i : Int) (j : Int) l (b : Int) r ∧ g_Tree_path [.loc T.n, .int i, .int j] S = .ok (.tup [.lst (l.map .int), .int (b : Nat), .lst (r.reverse.map .int)]) S ∧
      (saidT T l r → g_Tree_between [.loc T.n, .int i, .int j] S = .exn "Stuck" [] S) ∧
      (¬ saidT T l r → ∃ ds, g_Tree_between [.loc T.n, .int i, .int j] S = .ok (.lst (ds.map encD)) S ∧ (∀ d ∈ ds, okD d = true ∧ ∀ s, d ≠ .say s) ∧ ds.length = l.length + r.length ∧ ∀ e, SimB e (bs.getD i []) → okB e → ∃ e', progAll e ds = some e' ∧ SimB e' (bs.getD j []) ∧ okB e') := by
  have w := c.wf
  have hi' := (c.nd_iff (i := (i : Int))).mpr ⟨by omega, by omega⟩
  have hj' := (c.nd_iff (i := (j : Int))).mpr ⟨by omega, by omega⟩
  obtain ⟨l, b', r, sp, hb⟩ := split_ex w hj' _ (i : Int) (Nat.le_refl _) hi'
  obtain ⟨hb0, hb1⟩ := c.nd_iff.mp hb
  obtain ⟨b, rfl⟩ : ∃ b : Nat, b' = (b : Int) := ⟨b'.toNat, by omega⟩
  have lb : b < bs.length := by omega
  obtain ⟨tb, eb⟩ := above_ne T (b : Int)
  -- the nodes that come have deeds
  have hd : ∀ n ∈ r, T.dd n = some (((T.dd n).getD (.say ""))) := fun n hnr => by
    have hm := above_mem w.toWf _ (j : Int) (Nat.le_refl _) hj' n (by rw [sp.two]; exact List.mem_append_left _ hnr)
    obtain ⟨q, hq⟩ : ∃ q : Nat, n = (q : Int) := ⟨n.toNat, by omega⟩
    subst hq
    cases hp : T.par (q : Int) with
    | none =>
      obtain ⟨x, hx⟩ := Option.isSome_iff_exists.mp hm.1
      obtain ⟨xm, xk⟩ := nd_mem hx
      have hxp : x.par = none := by rw [← par_of hx]; exact hp
      have := w.root x xm hxp
      have hz := above_zero w _ (i : Int) (Nat.le_refl _) hi'
      exact absurd (by rw [show (q : Int) = 0 by omega]; exact hz) (sp.ro _ hnr)
    | some p =>
      obtain ⟨_, d, _, _, _, h, _⟩ := c.step hp
      rw [h]; rfl
  have rb := run_between k w hi' hj' (by omega) (by omega) sp (fun n => (T.dd n).getD (.say "")) hd
  have said_iff : saidT T l r ↔ ((l.any fun n => (T.oth n).isNone) = true ∨ (r.any fun n => isSay ((T.dd n).getD (.say ""))) = true) := by
    unfold saidT
    have : (r.any fun n => ((T.dd n).map isSay).getD false) = (r.any fun n => isSay ((T.dd n).getD (.say ""))) := by
      rw [Bool.eq_iff_iff, List.any_eq_true, List.any_eq_true]
      constructor
      · rintro ⟨n, hn, e⟩
        refine ⟨n, hn, ?_⟩
        rw [hd n hn] at e ⊢
        exact e
      · rintro ⟨n, hn, e⟩
        refine ⟨n, hn, ?_⟩
        rw [hd n hn] at e ⊢
        exact e
    rw [this]
  refine ⟨l, b, r, sp, run_path k w hi' hj' (by omega) (by omega) sp, fun hs => ?_, fun hs => ?_⟩
  · rw [rb, if_pos (said_iff.mp hs)]
  · have hs' := fun z => hs (said_iff.mpr z)
    have ho : ∀ n ∈ l, (T.oth n).isSome = true := fun n hnl => by
      cases h : T.oth n with
      | some d => rfl
      | none => exact absurd (.inl (List.any_eq_true.mpr ⟨n, hnl, by rw [h]; rfl⟩)) hs'
    have hns : ∀ n ∈ r, isSay ((T.dd n).getD (.say "")) = false := fun n hnr => by
      cases h : isSay ((T.dd n).getD (.say "")) with
      | false => rfl
      | true => exact absurd (.inr (List.any_eq_true.mpr ⟨n, hnr, h⟩)) hs'
    have bi := c.board hi
    obtain ⟨es, e1, u1, u2, u3, u4, u5⟩ := up_walk c i i l (bs.getD i []) (Nat.le_refl _) hi sp.one (SimB.refl _) bi ho
    obtain ⟨ds, e2, d1, d2, d3, d4, d5⟩ := down_walk c j j r e1 (Nat.le_refl _) hj sp.two u4 u5
    have hds : ∀ d ∈ ds, ∀ s, d ≠ .say s := fun d hd2 s z => by
      have h1 : some d ∈ r.reverse.map T.dd := by rw [d1]; exact List.mem_map_of_mem hd2
      obtain ⟨n, hn1, hn2⟩ := List.mem_map.mp h1
      have := hns n (List.mem_reverse.mp hn1)
      rw [hn2, z] at this
      cases this
    refine ⟨es ++ ds, ?_, ?_, ?_, ?_⟩
    · rw [rb, if_neg hs', u1, d1, ← List.map_append, List.map_map]; rfl
    · intro d hd2
      rcases List.mem_append.mp hd2 with h | h
      · exact u2 d h
      · exact ⟨d2 d h, hds d h⟩
    · have h1 := congrArg List.length u1
      have h2 := congrArg List.length d1
      simp only [List.length_map, List.length_reverse] at h1 h2
      rw [List.length_append, h1, h2]
    · intro e he oe
      obtain ⟨es', e1', u1', u2', u3', u4', u5'⟩ := up_walk c i i l e (Nat.le_refl _) hi sp.one he oe ho
      have : es' = es := map_some_inj (by rw [← u1', ← u1])
      subst this
      obtain ⟨ds', e2', d1', d2', d3', d4', d5'⟩ := down_walk c j j r e1' (Nat.le_refl _) hj sp.two u4' u5'
      have : ds' = ds := map_some_inj (by rw [← d1', ← d1])
      subst this
      exact ⟨e2', by rw [progAll_app, u3']; exact d3', d4', d5'⟩
theorem coup_go {S : Store} {T : Tr} {bs : List Board} {ps : List (Option Nat)} {F : Reg} (own : Own S (trCells T ++ F)) (c : Coup T bs ps) (hn : bs.length ≤ 400000) {h j : Nat} (hh : T.here = h) (hj : j < bs.length) :
    ∃ (l : List Int) (b : Nat) (r : List Int), Split T (h : Int) (j : Int) l (b : Int) r ∧ (saidT T l r → g_Tree_go [.loc T.n, .int j] S = .exn "Stuck" [] S) ∧
      (¬ saidT T l r → ∃ S' b', g_Tree_go [.loc T.n, .int j] S = .ok .non S' ∧ Own S' (trCells { T with board := b', here := j } ++ F) ∧ S'.length = S.length ∧ Coup { T with board := b', here := j } bs ps) := by
  obtain ⟨h', e1, hl, hs⟩ := c.here
  have : h' = h := by omega
  subst this
  obtain ⟨l, b, r, sp, _, f1, f2⟩ := coup_between own.tok c hn hl hj
  refine ⟨l, b, r, sp, fun z => ?_, fun z => ?_⟩
  · exact run_goX own.tok (by rw [hh]; exact f1 z)
  · obtain ⟨ds, g1, g2, _, g3⟩ := f2 z
    obtain ⟨e', p1, p2, p3⟩ := g3 T.board hs c.ob
    obtain ⟨S', k1, k2, k3⟩ := run_go own (j := j) (ds := ds) (b' := e') (by rw [hh]; exact g1) c.ob (fun d hd => (g2 d hd).1) p1
    exact ⟨S', e', k1, k2, k3, ⟨c.ln, c.lp, c.pos, c.last, ⟨j, rfl, hj, p2⟩, p3, c.obs, c.nod⟩⟩
theorem getD_app {α : Type} (l r : List α) {i : Nat} (h : i < l.length) (d : α) : (l ++ r).getD i d = l.getD i d := by
  rw [List.getD_eq_getElem?_getD, List.getD_eq_getElem?_getD, List.getElem?_append_left h]
theorem getD_last {α : Type} (l : List α) (x d : α) : (l ++ [x]).getD l.length d = x := by
  rw [List.getD_eq_getElem?_getD, List.getElem?_concat_length]; rfl
theorem coup_do {S : Store} {T : Tr} {bs : List Board} {ps : List (Option Nat)} {F : Reg} (own : Own S (trCells T ++ F)) (c : Coup T bs ps) (hn : bs.length < 900) {h : Nat} (hh : T.here = h) {d : Deed} (od : okD d = true) {b1 : Board} (hl : lawDone (bs.getD h []) d = some b1) :
    ∃ S' b' l' c', g_Tree_do [.loc T.n, encD d] S = .ok (.int bs.length) S' ∧ Own S' (trCells (doT T b' d l' c') ++ F) ∧ S.length ≤ S'.length ∧ Coup (doT T b' d l' c') (bs ++ [b1]) (ps ++ [some h]) := by
  obtain ⟨h', e1, hlt, hs⟩ := c.here
  have : h' = h := by omega
  subst this
  have obh := c.board hlt
  obtain ⟨b', p1, p2⟩ := (law_prog_sim (SimB.symm hs) obh c.ob d).of_some hl
  obtain ⟨S', l', c', r1, r2, r3⟩ := run_Tdo own c.ob od p1 c.keys (fun x hx => by
      obtain ⟨i, hi⟩ := List.getElem?_of_mem hx
      have h1 := (c.nod i x hi).1
      have h2 := (List.getElem?_eq_some_iff.mp hi).1
      have h3 := c.last
      rw [c.ln] at h2
      omega) (by rw [hh]; exact c.nd_iff.mpr ⟨by omega, by omega⟩) ⟨by rw [c.ln]; omega, fun x hx => by
      obtain ⟨i, hi⟩ := List.getElem?_of_mem hx
      have := (c.nod i x hi).2.2.1
      omega⟩
  have hlast : T.last + 1 = (bs.length : Int) := by have := c.last; omega
  refine ⟨S', b', l', c', by rw [r1, hlast], r2, r3, ?_⟩
  have lnew : (T.nodes.map (addKid T.here (T.last + 1))).length = bs.length := by rw [List.length_map, c.ln]
  refine ⟨?_, ?_, ?_, ?_, ⟨bs.length, ?_, ?_, ?_⟩, ?_, ?_, ?_⟩
  · show (T.nodes.map _ ++ [_]).length = _
    rw [List.length_append, lnew, List.length_append]; rfl
  · rw [List.length_append, List.length_append, c.lp]; rfl
  · rw [List.length_append]; have := c.pos; omega
  · show T.last + 1 = _
    rw [List.length_append, List.length_singleton]; omega
  · exact hlast
  · rw [List.length_append]; exact Nat.lt_succ_self _
  · rw [getD_last]; exact SimB.symm p2
  · exact okB_prog c.ob od p1
  · intro b hb
    rcases List.mem_append.mp hb with hb | hb
    · exact c.obs b hb
    · rw [List.mem_singleton.mp hb]; exact okB_law obh od hl
  · intro i x hx
    have hx : (T.nodes.map (addKid T.here (T.last + 1)) ++ [_])[i]? = some x := hx
    by_cases hi : i < bs.length
    · rw [List.getElem?_append_left (by rw [lnew]; exact hi), List.getElem?_map] at hx
      obtain ⟨y, hy, rfl⟩ := Option.map_eq_some_iff.mp hx
      obtain ⟨g1, g2, g3, g4, g5⟩ := c.nod i y hy
      have f1 : (addKid T.here (T.last + 1) y).k = y.k := by unfold addKid; split <;> rfl
      have f2 : (addKid T.here (T.last + 1) y).par = y.par := by unfold addKid; split <;> rfl
      have f3 : (addKid T.here (T.last + 1) y).deed = y.deed := by unfold addKid; split <;> rfl
      have f4 : (addKid T.here (T.last + 1) y).oth = y.oth := by unfold addKid; split <;> rfl
      have f5 : (addKid T.here (T.last + 1) y).kids.length ≤ y.kids.length + 1 := by unfold addKid; split <;> simp
      rw [f1, f2, f3, f4, getD_app ps _ (by rw [c.lp]; exact hi), getD_app bs _ hi]
      refine ⟨g1, g2, by rw [List.length_append, List.length_singleton]; omega, g4, fun h0 => ?_⟩
      obtain ⟨p, d0, q1, q2, q3, q4, q5, q6⟩ := g5 h0
      exact ⟨p, d0, q1, q2, q3, q4, by rw [getD_app bs _ (by omega)]; exact q5, by rw [getD_app bs _ (by omega)]; exact q6⟩
    · have hi2 : i = bs.length := by
        have := (List.getElem?_eq_some_iff.mp hx).1
        rw [List.length_append, lnew, List.length_singleton] at this
        omega
      subst hi2
      rw [← lnew, List.getElem?_concat_length] at hx
      cases hx
      have e2 : (ps ++ [some h']).getD bs.length none = some h' := by rw [← c.lp, getD_last]
      rw [e2]
      refine ⟨hlast, by show some T.here = _; rw [hh]; rfl, by simp, fun z => absurd z (by have := c.pos; omega), fun _ => ⟨h', d, hlt, rfl, rfl, od, ?_, ?_⟩⟩
      · rw [getD_app bs _ hlt]; exact back_sim hs d
      · rw [getD_app bs _ hlt, getD_last]; exact hl
theorem coup_new {n : Nat} {b : Board} (ob : okB b) : Coup (newT n b) [b] [none] where
  ln := rfl
  lp := rfl
  pos := Nat.zero_lt_one
  last := rfl
  here := ⟨0, rfl, Nat.zero_lt_one, sortB_sim b⟩
  ob := sortB_ok ob
  obs := fun c hc => by rw [List.mem_singleton.mp hc]; exact ob
  nod := fun i x hx => by
    cases i with
    | zero => cases hx; exact ⟨rfl, rfl, Nat.zero_le _, fun _ => rfl, fun z => absurd rfl z⟩
    | succ i => cases hx
end Dee

set_option maxRecDepth 100000
set_option maxHeartbeats 4000000
namespace Dee
open PySem PySem.Spec L2
theorem tagX_cases {c t : Str} (h : tagX c = some t) : c = "BadDeed" ∨ c = "BadBoard" ∨ c = "BadNumber" ∨ c = "Stuck" ∨ c = "Open" ∨ c = "Clash" := by
  unfold tagX at h
  simp only [List.lookup_cons, List.lookup_nil] at h
  by_cases h1 : c = "BadDeed"; · exact .inl h1
  by_cases h2 : c = "BadBoard"; · exact .inr (.inl h2)
  by_cases h3 : c = "BadNumber"; · exact .inr (.inr (.inl h3))
  by_cases h4 : c = "Stuck"; · exact .inr (.inr (.inr (.inl h4)))
  by_cases h5 : c = "Open"; · exact .inr (.inr (.inr (.inr (.inl h5))))
  by_cases h6 : c = "Clash"; · exact .inr (.inr (.inr (.inr (.inr h6))))
  rw [beq_eq_false_iff_ne.mpr h1, beq_eq_false_iff_ne.mpr h2, beq_eq_false_iff_ne.mpr h3, beq_eq_false_iff_ne.mpr h4, beq_eq_false_iff_ne.mpr h5, beq_eq_false_iff_ne.mpr h6] at h
  cases h
theorem exU {c t : Str} (h : tagX c = some t) : ex_UndoError c = some true := by
  rcases tagX_cases h with rfl | rfl | rfl | rfl | rfl | rfl <;> decide +kernel
@[simp] theorem isN_exc (n : Bool) (c : Str) (fs : List (Str × D)) (S : Store) : isND n (.exc c fs) .non S = some (.bl n, S) := (rfl)
theorem o_mulT (a : List D) (b : Int) (S : Store) : mulD (.tup a) (.int b) S = if a ≠ [] ∧ 2 ≤ b ∧ b ≤ 1000 ∧ a.length ≤ 1000 then some (.tup (List.replicate b.toNat a).flatten, S) else none := (rfl)
theorem o_mulL (a : List D) (b : Int) (S : Store) : mulD (.lst a) (.int b) S = if 0 ≤ b ∧ b < 1000 ∧ a.length * b.toNat ≤ 1000000 then some (.lst (List.replicate b.toNat a).flatten, S) else none := (rfl)
@[simp] theorem eq_ref (S : Store) (t u : Str) : eqTop S (refD t) (refD u) = some (decide (t = u)) := by
  show (some ((decide _ && (decide (t = u) && true)) && decide (2 = 2))) = _
  simp
@[simp] theorem eq_ref' (S : Store) (t u : String) : eqTop S (refD (Str.ofString t)) (.tup [.str (Str.ofString "refused"), .str (Str.ofString u)]) = some (decide (t = u)) := by
  have := eq_ref S (Str.ofString t) (Str.ofString u)
  rw [show refD (Str.ofString u) = .tup [.str (Str.ofString "refused"), .str (Str.ofString u)] from rfl] at this
  rw [this]; simp
theorem run_doneS (b : Board) (d : Deed) (S : Store) (ob : okB b) (od : okD d = true) : g__law_done [.dct (encB b), encD d] S = .ok (encOB (lawDone b d)) S := by
  by_cases h : ∃ s, d = .say s
  · obtain ⟨s, rfl⟩ := h
    rw [call__law_done]; unfold m__law_done
    have hc : cutL [D.str "say", D.str s] none (some 2) = [D.str "say", D.str s] := rfl
    simp [encD, lawDone, encOB, atI0, hc]
  · exact run_done b d S (okB_small ob) od (fun s z => h ⟨s, z⟩)
theorem gcn (S : Store) : gcOut [] (.ok (.bl true) S) = .ok (.bl true) [] := by
  simp only [gcOut]
  rw [if_pos ⟨.inl rfl, rfl⟩]; rfl
def some14 : List Nat := (Str.ofString "some text here").cps.toList
def more4 : List Nat := (Str.ofString "more").cps.toList
def bd0 : Board := [("a", .text some14), ("b", .row ["one", "two", "x", "one"]), ("c", .num 5)]
def bd1 : Board := [("a", .text some14), ("b", .row ["one", "two", "x", "one"]), ("c", .num 5), ("d", .text more4)]
theorem tx14 : Tx some14 = Str.ofString "some text here" := by decide +kernel
theorem tx4 : Tx more4 = Str.ofString "more" := by decide +kernel
theorem bd1_vals : ∀ p ∈ bd1, okV p.2 = true ∧ wordS p.1 = true := by decide +kernel
theorem eb0 : encB bd0 = [(.inr "a", .tup [.str "text", .str "some text here"]), (.inr "b", .tup [.str "row", .tup [.str "one", .str "two", .str "x", .str "one"]]), (.inr "c", .tup [.str "number", .int 5])] := by
  show [(Sum.inr _, encV (.text some14)), _, _] = _
  rw [ev_text, tx14]
  rfl
theorem eb1 : encB bd1 = [(.inr "a", .tup [.str "text", .str "some text here"]), (.inr "b", .tup [.str "row", .tup [.str "one", .str "two", .str "x", .str "one"]]), (.inr "c", .tup [.str "number", .int 5]), (.inr "d", .tup [.str "text", .str "more"])] := by
  show encB bd0 ++ [(Sum.inr _, encV (.text more4))] = _
  rw [ev_text, tx4, eb0]
  rfl
theorem gc_two {c c' x : Cell} {d : D} (h : loD 1 d = true) (h' : loC 1 c' = true) : gcOut [c] (.ok d [c', x]) = .ok d [c'] := by
  simp only [gcOut]
  rw [if_pos ⟨.inr (by show ([c'].all (loC 1)) = true; simp [h']), h⟩]; rfl
theorem ck1 (c : Cell) (kvs : List (Key × D)) : cellK [c, .dct kvs] (.loc 1) = some (1, kvs) := rfl
theorem frz1 (c : Cell) (kvs : List (Key × D)) : frzOut (.ok (.loc 1) [c, .dct kvs]) = .ok (.dct kvs) [c, .dead] := rfl
theorem tw1 : loC 1 (tw 1) = true := rfl
theorem bd_ok {b : Board} (h : b = bd0 ∨ b = bd1) : okB b ∧ ∀ n ∈ [Str.ofString "a", Str.ofString "b", Str.ofString "c"], ∃ v, getB b n = some v := by
  have hv := bd1_vals
  rcases h with rfl | rfl
  · refine ⟨⟨fun p hp => ?_, by simp [bd0], by decide +kernel⟩, fun n hn => ?_⟩
    · exact (hv p (by simp only [bd0, bd1, List.mem_cons, List.not_mem_nil, or_false] at hp ⊢; rcases hp with h | h | h <;> simp [h])).symm
    · simp only [List.mem_cons, List.not_mem_nil, or_false] at hn
      rcases hn with rfl | rfl | rfl
      · exact Option.isSome_iff_exists.mp (by decide +kernel)
      · exact Option.isSome_iff_exists.mp (by decide +kernel)
      · exact Option.isSome_iff_exists.mp (by decide +kernel)
  · refine ⟨⟨fun p hp => (hv p hp).symm, by simp [bd1], by decide +kernel⟩, fun n hn => ?_⟩
    simp only [List.mem_cons, List.not_mem_nil, or_false] at hn
    rcases hn with rfl | rfl | rfl
    · exact Option.isSome_iff_exists.mp (by decide +kernel)
    · exact Option.isSome_iff_exists.mp (by decide +kernel)
    · exact Option.isSome_iff_exists.mp (by decide +kernel)
/-! ### a walk that may end early -/
theorem forN_rngE {g : MG} {b : MS} {lo : Int} {n : Nat} (Inv : Nat → Dn → Store → Prop) (Post : D → Store → Prop)
    (hs : ∀ i δ S, i < n → Inv i δ S → ∃ δ1, g (.int (lo + i)) δ S = some δ1 ∧ ((∃ δ2 S2, b δ1 S = .nx δ2 S2 ∧ Inv (i + 1) δ2 S2) ∨ ∃ d S2, b δ1 S = .rt d S2 ∧ Post d S2)) :
    ∀ (k i : Nat) (δ : Dn) (S : Store), i + k = n → Inv i δ S → (∃ δ' S', forN (.rng lo n) g b (k + 1) i δ S = .nx δ' S' ∧ Inv n δ' S') ∨ ∃ d S', forN (.rng lo n) g b (k + 1) i δ S = .rt d S' ∧ Post d S'
  | 0, i, δ, S, e, h => by
    have : i = n := by omega
    subst this
    refine .inl ⟨δ, S, ?_, h⟩
    unfold forN
    simp [nxtD]
  | k + 1, i, δ, S, e, h => by
    obtain ⟨δ1, e1, h2⟩ := hs i δ S (by omega) h
    have hi : i < n := by omega
    rcases h2 with ⟨δ2, S2, e2, h2⟩ | ⟨d, S2, e2, h2⟩
    · rcases forN_rngE Inv Post hs k (i + 1) δ2 S2 (by omega) h2 with ⟨δ', S', e3, h3⟩ | ⟨d, S', e3, h3⟩
      · refine .inl ⟨δ', S', ?_, h3⟩
        unfold forN
        simp only [nxtD, hi, if_true, e1, e2]
        exact e3
      · refine .inr ⟨d, S', ?_, h3⟩
        unfold forN
        simp only [nxtD, hi, if_true, e1, e2]
        exact e3
    · refine .inr ⟨d, S2, ?_, h2⟩
      unfold forN
      simp only [nxtD, hi, if_true, e1, e2]
theorem tag_number : tagX "BadNumber" = some "number" := by decide +kernel
theorem tag_stuck : tagX "Stuck" = some "stuck" := by decide +kernel
theorem tag_deed : tagX "BadDeed" = some "deed" := by decide +kernel
theorem ix0_encD (d : Deed) (S : Store) : ixD (encD d) (.int 0) S = some (.str (tagD d), S) := by rw [enc_eq]; simp [atI0]
theorem ix1_encD (d : Deed) (S : Store) : ixD (encD d) (.int 1) S = some (.str (nameD d), S) := by rw [enc_eq]; simp [atI1]
end Dee

set_option maxRecDepth 100000
set_option maxHeartbeats 4000000
namespace Dee
open PySem PySem.Spec L2
def topS (i : Nat) : Stmt := PySem.Challenge.pw_undohouse_k40_whole_trees.main.body.getD i (.Pass ⟨0, 0, 0, 0⟩)
def bodyOf : Stmt → List Stmt
  | .ClassDef _ _ _ b _ _ _ _ _ _ _ => b
  | _ => []
def clsS (i j : Nat) : Stmt := (bodyOf (topS i)).getD j (.Pass ⟨0, 0, 0, 0⟩)
abbrev s_is_word : Stmt := topS 18
abbrev s_is_text : Stmt := topS 19
abbrev s_is_value : Stmt := topS 20
abbrev s_look_board : Stmt := topS 21
abbrev s_must : Stmt := topS 22
abbrev s_look_deed : Stmt := topS 23
abbrev s_with_value : Stmt := topS 24
abbrev s_without : Stmt := topS 25
abbrev s_on_names : Stmt := topS 26
abbrev s_on_text : Stmt := topS 27
abbrev s_on_row : Stmt := topS 28
abbrev s_done : Stmt := topS 29
abbrev s_back : Stmt := topS 30
abbrev s_all_done : Stmt := topS 31
abbrev s_Node_init : Stmt := clsS 33 0
abbrev s_Tree_init : Stmt := clsS 34 0
abbrev s_Tree_board : Stmt := clsS 34 1
abbrev s_Tree_at : Stmt := clsS 34 2
abbrev s_Tree_need : Stmt := clsS 34 3
abbrev s_Tree_do : Stmt := clsS 34 4
abbrev s_Tree_above : Stmt := clsS 34 5
abbrev s_Tree_path : Stmt := clsS 34 6
abbrev s_Tree_between : Stmt := clsS 34 7
abbrev s_Tree_go : Stmt := clsS 34 8
abbrev s_Tree_parent : Stmt := clsS 34 9
abbrev s_Tree_children : Stmt := clsS 34 10
abbrev s_Tree_tips : Stmt := clsS 34 11
abbrev s_Tree_many : Stmt := clsS 34 15
abbrev s__law_cell : Stmt := topS 36
abbrev s__law_mix : Stmt := topS 37
abbrev s__law_draw : Stmt := topS 38
abbrev s__law_pick : Stmt := topS 39
abbrev s__law_refusal : Stmt := topS 40
abbrev s__law_signs : Stmt := topS 41
abbrev s__law_value : Stmt := topS 42
abbrev s__law_board : Stmt := topS 43
abbrev s__law_deed : Stmt := topS 44
abbrev s__law_done : Stmt := topS 45
abbrev s__law_edited : Stmt := topS 46
abbrev s__law_told : Stmt := topS 47
abbrev s__law_is_said : Stmt := topS 48
abbrev s__law_turn : Stmt := topS 49
abbrev s__law_nodes : Stmt := topS 50
abbrev s_law : Stmt := topS 51
/-! ### what the text has written -/
structure Ad where
  a : Str → Addr
  f_is_word : Addr
  fd_is_word : FuncData
  f_is_text : Addr
  fd_is_text : FuncData
  f_is_value : Addr
  fd_is_value : FuncData
  f_look_board : Addr
  fd_look_board : FuncData
  f_must : Addr
  fd_must : FuncData
  f_look_deed : Addr
  fd_look_deed : FuncData
  f_with_value : Addr
  fd_with_value : FuncData
  f_without : Addr
  fd_without : FuncData
  f_on_names : Addr
  fd_on_names : FuncData
  f_on_text : Addr
  fd_on_text : FuncData
  f_on_row : Addr
  fd_on_row : FuncData
  f_done : Addr
  fd_done : FuncData
  f_back : Addr
  fd_back : FuncData
  f_all_done : Addr
  fd_all_done : FuncData
  f_Node_init : Addr
  fd_Node_init : FuncData
  f_Tree_init : Addr
  fd_Tree_init : FuncData
  f_Tree_board : Addr
  fd_Tree_board : FuncData
  f_Tree_at : Addr
  fd_Tree_at : FuncData
  f_Tree_need : Addr
  fd_Tree_need : FuncData
  f_Tree_do : Addr
  fd_Tree_do : FuncData
  f_Tree_above : Addr
  fd_Tree_above : FuncData
  f_Tree_path : Addr
  fd_Tree_path : FuncData
  f_Tree_between : Addr
  fd_Tree_between : FuncData
  f_Tree_go : Addr
  fd_Tree_go : FuncData
  f_Tree_parent : Addr
  fd_Tree_parent : FuncData
  f_Tree_children : Addr
  fd_Tree_children : FuncData
  f_Tree_tips : Addr
  fd_Tree_tips : FuncData
  f_Tree_many : Addr
  fd_Tree_many : FuncData
  f__law_cell : Addr
  fd__law_cell : FuncData
  f__law_mix : Addr
  fd__law_mix : FuncData
  f__law_draw : Addr
  fd__law_draw : FuncData
  f__law_pick : Addr
  fd__law_pick : FuncData
  f__law_refusal : Addr
  fd__law_refusal : FuncData
  f__law_signs : Addr
  fd__law_signs : FuncData
  f__law_value : Addr
  fd__law_value : FuncData
  f__law_board : Addr
  fd__law_board : FuncData
  f__law_deed : Addr
  fd__law_deed : FuncData
  f__law_done : Addr
  fd__law_done : FuncData
  f__law_edited : Addr
  fd__law_edited : FuncData
  f__law_told : Addr
  fd__law_told : FuncData
  f__law_is_said : Addr
  fd__law_is_said : FuncData
  f__law_turn : Addr
  fd__law_turn : FuncData
  f__law_nodes : Addr
  fd__law_nodes : FuncData
  f_law : Addr
  fd_law : FuncData
structure Txt (K : PySem.W.Frag) (w : World) (mg : Str → Option Value) (x : Ad) : Prop where
  m_is_word : mg "is_word" = some (.ref x.f_is_word)
  F_is_word : Fun K "is_word" "is_word" s_is_word x.f_is_word x.fd_is_word
  b_is_word : Binds K x.fd_is_word ["thing"] []
  m_is_text : mg "is_text" = some (.ref x.f_is_text)
  F_is_text : Fun K "is_text" "is_text" s_is_text x.f_is_text x.fd_is_text
  b_is_text : Binds K x.fd_is_text ["thing"] []
  m_is_value : mg "is_value" = some (.ref x.f_is_value)
  F_is_value : Fun K "is_value" "is_value" s_is_value x.f_is_value x.fd_is_value
  b_is_value : Binds K x.fd_is_value ["value"] []
  m_look_board : mg "look_board" = some (.ref x.f_look_board)
  F_look_board : Fun K "look_board" "look_board" s_look_board x.f_look_board x.fd_look_board
  b_look_board : Binds K x.fd_look_board ["board"] []
  m_must : mg "must" = some (.ref x.f_must)
  F_must : Fun K "must" "must" s_must x.f_must x.fd_must
  b_must : Binds K x.fd_must ["right"] []
  m_look_deed : mg "look_deed" = some (.ref x.f_look_deed)
  F_look_deed : Fun K "look_deed" "look_deed" s_look_deed x.f_look_deed x.fd_look_deed
  b_look_deed : Binds K x.fd_look_deed ["deed"] []
  m_with_value : mg "with_value" = some (.ref x.f_with_value)
  F_with_value : Fun K "with_value" "with_value" s_with_value x.f_with_value x.fd_with_value
  b_with_value : Binds K x.fd_with_value ["board", "name", "value"] []
  m_without : mg "without" = some (.ref x.f_without)
  F_without : Fun K "without" "without" s_without x.f_without x.fd_without
  b_without : Binds K x.fd_without ["board", "name"] []
  m_on_names : mg "on_names" = some (.ref x.f_on_names)
  F_on_names : Fun K "on_names" "on_names" s_on_names x.f_on_names x.fd_on_names
  b_on_names : Binds K x.fd_on_names ["board", "deed"] []
  m_on_text : mg "on_text" = some (.ref x.f_on_text)
  F_on_text : Fun K "on_text" "on_text" s_on_text x.f_on_text x.fd_on_text
  b_on_text : Binds K x.fd_on_text ["text", "deed"] []
  m_on_row : mg "on_row" = some (.ref x.f_on_row)
  F_on_row : Fun K "on_row" "on_row" s_on_row x.f_on_row x.fd_on_row
  b_on_row : Binds K x.fd_on_row ["row", "deed"] []
  m_done : mg "done" = some (.ref x.f_done)
  F_done : Fun K "done" "done" s_done x.f_done x.fd_done
  b_done : Binds K x.fd_done ["board", "deed"] []
  m_back : mg "back" = some (.ref x.f_back)
  F_back : Fun K "back" "back" s_back x.f_back x.fd_back
  b_back : Binds K x.fd_back ["board", "deed"] []
  m_all_done : mg "all_done" = some (.ref x.f_all_done)
  F_all_done : Fun K "all_done" "all_done" s_all_done x.f_all_done x.fd_all_done
  b_all_done : Binds K x.fd_all_done ["board", "deeds"] []
  F_Node_init : Fun K "__init__" "Node.__init__" s_Node_init x.f_Node_init x.fd_Node_init
  b_Node_init : Binds K x.fd_Node_init ["self", "parent", "deed", "other"] []
  F_Tree_init : Fun K "__init__" "Tree.__init__" s_Tree_init x.f_Tree_init x.fd_Tree_init
  b_Tree_init : Binds K x.fd_Tree_init ["self", "board"] []
  me_Tree_board : Meth K (x.a "Tree") "board" x.f_Tree_board
  F_Tree_board : Fun K "board" "Tree.board" s_Tree_board x.f_Tree_board x.fd_Tree_board
  b_Tree_board : Binds K x.fd_Tree_board ["self"] []
  me_Tree_at : Meth K (x.a "Tree") "at" x.f_Tree_at
  F_Tree_at : Fun K "at" "Tree.at" s_Tree_at x.f_Tree_at x.fd_Tree_at
  b_Tree_at : Binds K x.fd_Tree_at ["self"] []
  me_Tree_need : Meth K (x.a "Tree") "need" x.f_Tree_need
  F_Tree_need : Fun K "need" "Tree.need" s_Tree_need x.f_Tree_need x.fd_Tree_need
  b_Tree_need : Binds K x.fd_Tree_need ["self", "node"] []
  me_Tree_do : Meth K (x.a "Tree") "do" x.f_Tree_do
  F_Tree_do : Fun K "do" "Tree.do" s_Tree_do x.f_Tree_do x.fd_Tree_do
  b_Tree_do : Binds K x.fd_Tree_do ["self", "deed"] []
  me_Tree_above : Meth K (x.a "Tree") "above" x.f_Tree_above
  F_Tree_above : Fun K "above" "Tree.above" s_Tree_above x.f_Tree_above x.fd_Tree_above
  b_Tree_above : Binds K x.fd_Tree_above ["self", "node"] []
  me_Tree_path : Meth K (x.a "Tree") "path" x.f_Tree_path
  F_Tree_path : Fun K "path" "Tree.path" s_Tree_path x.f_Tree_path x.fd_Tree_path
  b_Tree_path : Binds K x.fd_Tree_path ["self", "one", "other"] []
  me_Tree_between : Meth K (x.a "Tree") "between" x.f_Tree_between
  F_Tree_between : Fun K "between" "Tree.between" s_Tree_between x.f_Tree_between x.fd_Tree_between
  b_Tree_between : Binds K x.fd_Tree_between ["self", "one", "other"] []
  me_Tree_go : Meth K (x.a "Tree") "go" x.f_Tree_go
  F_Tree_go : Fun K "go" "Tree.go" s_Tree_go x.f_Tree_go x.fd_Tree_go
  b_Tree_go : Binds K x.fd_Tree_go ["self", "node"] []
  me_Tree_parent : Meth K (x.a "Tree") "parent" x.f_Tree_parent
  F_Tree_parent : Fun K "parent" "Tree.parent" s_Tree_parent x.f_Tree_parent x.fd_Tree_parent
  b_Tree_parent : Binds K x.fd_Tree_parent ["self", "node"] []
  me_Tree_children : Meth K (x.a "Tree") "children" x.f_Tree_children
  F_Tree_children : Fun K "children" "Tree.children" s_Tree_children x.f_Tree_children x.fd_Tree_children
  b_Tree_children : Binds K x.fd_Tree_children ["self", "node"] []
  me_Tree_tips : Meth K (x.a "Tree") "tips" x.f_Tree_tips
  F_Tree_tips : Fun K "tips" "Tree.tips" s_Tree_tips x.f_Tree_tips x.fd_Tree_tips
  b_Tree_tips : Binds K x.fd_Tree_tips ["self"] []
  me_Tree_many : Meth K (x.a "Tree") "many" x.f_Tree_many
  F_Tree_many : Fun K "many" "Tree.many" s_Tree_many x.f_Tree_many x.fd_Tree_many
  b_Tree_many : Binds K x.fd_Tree_many ["self"] []
  m__law_cell : mg "_law_cell" = some (.ref x.f__law_cell)
  F__law_cell : Fun K "_law_cell" "_law_cell" s__law_cell x.f__law_cell x.fd__law_cell
  b__law_cell : Binds K x.fd__law_cell ["_law_script", "_law_k"] []
  m__law_mix : mg "_law_mix" = some (.ref x.f__law_mix)
  F__law_mix : Fun K "_law_mix" "_law_mix" s__law_mix x.f__law_mix x.fd__law_mix
  b__law_mix : Binds K x.fd__law_mix ["_law_script", "_law_k"] []
  m__law_draw : mg "_law_draw" = some (.ref x.f__law_draw)
  F__law_draw : Fun K "_law_draw" "_law_draw" s__law_draw x.f__law_draw x.fd__law_draw
  b__law_draw : Binds K x.fd__law_draw ["_law_script", "_law_town", "_law_many"] []
  m__law_pick : mg "_law_pick" = some (.ref x.f__law_pick)
  F__law_pick : Fun K "_law_pick" "_law_pick" s__law_pick x.f__law_pick x.fd__law_pick
  b__law_pick : Binds K x.fd__law_pick ["_law_script", "_law_town", "_law_some"] []
  m__law_refusal : mg "_law_refusal" = some (.ref x.f__law_refusal)
  F__law_refusal : Fun K "_law_refusal" "_law_refusal" s__law_refusal x.f__law_refusal x.fd__law_refusal
  b__law_refusal : Binds K x.fd__law_refusal ["_law_held"] []
  m__law_signs : mg "_law_signs" = some (.ref x.f__law_signs)
  F__law_signs : Fun K "_law_signs" "_law_signs" s__law_signs x.f__law_signs x.fd__law_signs
  b__law_signs : Binds K x.fd__law_signs ["_law_script", "_law_town", "_law_many"] []
  m__law_value : mg "_law_value" = some (.ref x.f__law_value)
  F__law_value : Fun K "_law_value" "_law_value" s__law_value x.f__law_value x.fd__law_value
  b__law_value : Binds K x.fd__law_value ["_law_script", "_law_town"] []
  m__law_board : mg "_law_board" = some (.ref x.f__law_board)
  F__law_board : Fun K "_law_board" "_law_board" s__law_board x.f__law_board x.fd__law_board
  b__law_board : Binds K x.fd__law_board ["_law_script", "_law_town"] []
  m__law_deed : mg "_law_deed" = some (.ref x.f__law_deed)
  F__law_deed : Fun K "_law_deed" "_law_deed" s__law_deed x.f__law_deed x.fd__law_deed
  b__law_deed : Binds K x.fd__law_deed ["_law_script", "_law_town", "_law_board_here"] []
  m__law_done : mg "_law_done" = some (.ref x.f__law_done)
  F__law_done : Fun K "_law_done" "_law_done" s__law_done x.f__law_done x.fd__law_done
  b__law_done : Binds K x.fd__law_done ["_law_board_here", "_law_deed_here"] []
  m__law_edited : mg "_law_edited" = some (.ref x.f__law_edited)
  F__law_edited : Fun K "_law_edited" "_law_edited" s__law_edited x.f__law_edited x.fd__law_edited
  b__law_edited : Binds K x.fd__law_edited ["_law_value_here", "_law_deed_here", "_law_new", "_law_most"] []
  m__law_told : mg "_law_told" = some (.ref x.f__law_told)
  F__law_told : Fun K "_law_told" "_law_told" s__law_told x.f__law_told x.fd__law_told
  b__law_told : Binds K x.fd__law_told ["_law_tree", "_law_word", "_law_thing"] []
  m__law_is_said : mg "_law_is_said" = some (.ref x.f__law_is_said)
  F__law_is_said : Fun K "_law_is_said" "_law_is_said" s__law_is_said x.f__law_is_said x.fd__law_is_said
  b__law_is_said : Binds K x.fd__law_is_said ["_law_state", "_law_one", "_law_other"] []
  m__law_turn : mg "_law_turn" = some (.ref x.f__law_turn)
  F__law_turn : Fun K "_law_turn" "_law_turn" s__law_turn x.f__law_turn x.fd__law_turn
  b__law_turn : Binds K x.fd__law_turn ["_law_script", "_law_town", "_law_tree", "_law_state"] []
  m__law_nodes : mg "_law_nodes" = some (.ref x.f__law_nodes)
  F__law_nodes : Fun K "_law_nodes" "_law_nodes" s__law_nodes x.f__law_nodes x.fd__law_nodes
  b__law_nodes : Binds K x.fd__law_nodes ["_law_tree", "_law_state", "_law_many"] []
  m_law : mg "law" = some (.ref x.f_law)
  F_law : Fun K "law" "law" s_law x.f_law x.fd_law
  b_law : Binds K x.fd_law ["_law_script"] []
  c_Node : Cls K (x.a "Node")
  n_Node_origin : NoAttr K (x.a "Node") "origin"
  n_Node_deed : NoAttr K (x.a "Node") "deed"
  n_Node_other : NoAttr K (x.a "Node") "other"
  n_Node_comes : NoAttr K (x.a "Node") "comes"
  mc_Node : mg "Node" = some (.ref (x.a "Node"))
  mk_Node : Mk K (x.a "Node") x.f_Node_init
  c_Tree : Cls K (x.a "Tree")
  n_Tree_here_board : NoAttr K (x.a "Tree") "here_board"
  n_Tree_nodes : NoAttr K (x.a "Tree") "nodes"
  n_Tree_here : NoAttr K (x.a "Tree") "here"
  n_Tree_last : NoAttr K (x.a "Tree") "last"
  n_Tree_marked : NoAttr K (x.a "Tree") "marked"
  mc_Tree : mg "Tree" = some (.ref (x.a "Tree"))
  mk_Tree : Mk K (x.a "Tree") x.f_Tree_init
  z_abs : mg "abs" = none
  z_all : mg "all" = none
  z_any : mg "any" = none
  z_int : mg "int" = none
  z_isinstance : mg "isinstance" = none
  z_len : mg "len" = none
  z_list : mg "list" = none
  z_max : mg "max" = none
  z_ord : mg "ord" = none
  z_range : mg "range" = none
  z_sorted : mg "sorted" = none
  z_tuple : mg "tuple" = none
  g_KINDS : ∃ p, mg "KINDS" = some (.ref p) ∧ ∀ F ρ, Rep ⟨K, w, x.a⟩ F ρ k_KINDS (.ref p)
  g_MOST_NAMES : ∃ t, mg "MOST_NAMES" = some (.int 20 t)
  g_MOST_NUMBER : ∃ t, mg "MOST_NUMBER" = some (.int 1000000000 t)
  g_MOST_ROW : ∃ t, mg "MOST_ROW" = some (.int 40 t)
  g_MOST_TEXT : ∃ t, mg "MOST_TEXT" = some (.int 200 t)
  g_MOST_WORD : ∃ t, mg "MOST_WORD" = some (.int 8 t)
  g_SIZES : ∃ p, mg "SIZES" = some (.ref p) ∧ ∀ F ρ, Rep ⟨K, w, x.a⟩ F ρ k_SIZES (.ref p)
  g_SMALL : ∃ t, mg "SMALL" = some (.str "abcdefghijklmnopqrstuvwxyz" t)
  x_BadBoard : PySem.W.excIn K (x.a "BadBoard") [.type "ValueError", .type "Exception", .type "BaseException", .type "object"] "ValueError.__new__" = true
  mx_BadBoard : mg "BadBoard" = some (.ref (x.a "BadBoard"))
  kx_BadBoard : PySem.W.keepIn K (.ref (x.a "BadBoard")) = true
  rx_BadBoard : ∀ X : Cx, X.K = K → Raises X (.ref (x.a "BadBoard"))
  x_BadDeed : PySem.W.excIn K (x.a "BadDeed") [.type "ValueError", .type "Exception", .type "BaseException", .type "object"] "ValueError.__new__" = true
  mx_BadDeed : mg "BadDeed" = some (.ref (x.a "BadDeed"))
  kx_BadDeed : PySem.W.keepIn K (.ref (x.a "BadDeed")) = true
  rx_BadDeed : ∀ X : Cx, X.K = K → Raises X (.ref (x.a "BadDeed"))
  x_BadNumber : PySem.W.excIn K (x.a "BadNumber") [.type "ValueError", .type "Exception", .type "BaseException", .type "object"] "ValueError.__new__" = true
  mx_BadNumber : mg "BadNumber" = some (.ref (x.a "BadNumber"))
  kx_BadNumber : PySem.W.keepIn K (.ref (x.a "BadNumber")) = true
  rx_BadNumber : ∀ X : Cx, X.K = K → Raises X (.ref (x.a "BadNumber"))
  x_Stuck : PySem.W.excIn K (x.a "Stuck") [.type "ValueError", .type "Exception", .type "BaseException", .type "object"] "ValueError.__new__" = true
  mx_Stuck : mg "Stuck" = some (.ref (x.a "Stuck"))
  kx_Stuck : PySem.W.keepIn K (.ref (x.a "Stuck")) = true
  rx_Stuck : ∀ X : Cx, X.K = K → Raises X (.ref (x.a "Stuck"))
  e_UndoError : ∀ (c : Str) (b : Bool), ex_UndoError c = some b → PySem.W.exmOne K (.ref (x.a c)) (.ref (x.a "UndoError")) = some b
  en_UndoError : mg "UndoError" = some (.ref (x.a "UndoError"))
  im_BadBoard : mg "BadBoard" = some (.ref (x.a "BadBoard"))
  i1_BadBoard : ∀ (n : String) (b : Bool), is_BadBoard (.inl n) = some b → PySem.W.kitOne K (.type n) (.ref (x.a "BadBoard")) = some b
  i2_BadBoard : ∀ (c : Str) (b : Bool), is_BadBoard (.inr c) = some b → PySem.W.kitOne K (.ref (x.a c)) (.ref (x.a "BadBoard")) = some b ∧ XcK K (x.a c)
  im_BadDeed : mg "BadDeed" = some (.ref (x.a "BadDeed"))
  i1_BadDeed : ∀ (n : String) (b : Bool), is_BadDeed (.inl n) = some b → PySem.W.kitOne K (.type n) (.ref (x.a "BadDeed")) = some b
  i2_BadDeed : ∀ (c : Str) (b : Bool), is_BadDeed (.inr c) = some b → PySem.W.kitOne K (.ref (x.a c)) (.ref (x.a "BadDeed")) = some b ∧ XcK K (x.a c)
  im_BadNumber : mg "BadNumber" = some (.ref (x.a "BadNumber"))
  i1_BadNumber : ∀ (n : String) (b : Bool), is_BadNumber (.inl n) = some b → PySem.W.kitOne K (.type n) (.ref (x.a "BadNumber")) = some b
  i2_BadNumber : ∀ (c : Str) (b : Bool), is_BadNumber (.inr c) = some b → PySem.W.kitOne K (.ref (x.a c)) (.ref (x.a "BadNumber")) = some b ∧ XcK K (x.a c)
  im_Clash : mg "Clash" = some (.ref (x.a "Clash"))
  i1_Clash : ∀ (n : String) (b : Bool), is_Clash (.inl n) = some b → PySem.W.kitOne K (.type n) (.ref (x.a "Clash")) = some b
  i2_Clash : ∀ (c : Str) (b : Bool), is_Clash (.inr c) = some b → PySem.W.kitOne K (.ref (x.a c)) (.ref (x.a "Clash")) = some b ∧ XcK K (x.a c)
  im_Open : mg "Open" = some (.ref (x.a "Open"))
  i1_Open : ∀ (n : String) (b : Bool), is_Open (.inl n) = some b → PySem.W.kitOne K (.type n) (.ref (x.a "Open")) = some b
  i2_Open : ∀ (c : Str) (b : Bool), is_Open (.inr c) = some b → PySem.W.kitOne K (.ref (x.a c)) (.ref (x.a "Open")) = some b ∧ XcK K (x.a c)
  im_Stuck : mg "Stuck" = some (.ref (x.a "Stuck"))
  i1_Stuck : ∀ (n : String) (b : Bool), is_Stuck (.inl n) = some b → PySem.W.kitOne K (.type n) (.ref (x.a "Stuck")) = some b
  i2_Stuck : ∀ (c : Str) (b : Bool), is_Stuck (.inr c) = some b → PySem.W.kitOne K (.ref (x.a c)) (.ref (x.a "Stuck")) = some b ∧ XcK K (x.a c)
  im_ValueError : mg "ValueError" = none
  i1_ValueError : ∀ (n : String) (b : Bool), is_ValueError (.inl n) = some b → PySem.W.kitOne K (.type n) (.type "ValueError") = some b
  i2_ValueError : ∀ (c : Str) (b : Bool), is_ValueError (.inr c) = some b → PySem.W.kitOne K (.ref (x.a c)) (.type "ValueError") = some b ∧ XcK K (x.a c)
/-! ### the defs -/
noncomputable def m_Tree_boardC : MS := mRt (mMeth .dct (copyD true) (mFld "Tree" "here_board" (mVar 0)) aNil)
noncomputable def g_Tree_boardC : List D → Store → Out D := fnR m_Tree_boardC 1 1
theorem call_Tree_boardC (d0 : D) (S : Store) : g_Tree_boardC [d0] S = soOut (m_Tree_boardC [some d0] S) := run_defR rfl
theorem fn_len_Tree_boardC : ∀ (ds : List D) (S : Store), g_Tree_boardC ds S ≠ .bad → ds.length = 1 := fnR_len
noncomputable def m_Tree_childrenC : MS := mSeq (mEx (mMth "Tree" "need" g_Tree_need (mVar 0) (aCons (mVar 1) (aNil)))) (mRt (mApp (listD true) (aCons (mFld "Node" "comes" (mBin ixD (mFld "Tree" "nodes" (mVar 0)) (mVar 1))) (aNil))))
noncomputable def g_Tree_childrenC : List D → Store → Out D := fnR m_Tree_childrenC 2 2
theorem call_Tree_childrenC (d0 d1 : D) (S : Store) : g_Tree_childrenC [d0, d1] S = soOut (m_Tree_childrenC [some d0, some d1] S) := run_defR rfl
theorem fn_len_Tree_childrenC : ∀ (ds : List D) (S : Store), g_Tree_childrenC ds S ≠ .bad → ds.length = 2 := fnR_len
noncomputable def m__law_told : MS := mSeq (mAsg (mC .non) (gVar 3)) (mSeq (mAsg (mC .non) (gVar 4)) (mSeq (mTryH ex_UndoError 5 3 (mIfS (tVal (mBin eqO (mVar 1) (mC (.str "do")))) (mAsg (mMth "Tree" "do" g_Tree_do (mVar 0) (aCons (mVar 2) (aNil))) (gVar 4)) (mIfS (tVal (mBin eqO (mVar 1) (mC (.str "go")))) (mAsg (mMth "Tree" "go" g_Tree_go (mVar 0) (aCons (mVar 2) (aNil))) (gVar 4)) (mIfS (tVal (mBin eqO (mVar 1) (mC (.str "between")))) (mAsg (mMth "Tree" "between" g_Tree_between (mVar 0) (aCons (mC (.int 0)) (aCons (mVar 2) (aNil)))) (gVar 4)) (mAsg (mIf (tVal (mBin eqO (mVar 1) (mC (.str "parent")))) (mMth "Tree" "parent" g_Tree_parent (mVar 0) (aCons (mVar 2) (aNil))) (mMth "Tree" "children" g_Tree_childrenC (mVar 0) (aCons (mVar 2) (aNil)))) (gVar 4)))))) (mRt (mIf (tVal (mBin (isND false) (mVar 3) (mC .non))) (mVar 4) (mCall g__law_refusal (aCons (mVar 3) (aNil)))))))
noncomputable def g__law_told : List D → Store → Out D := fnR m__law_told 6 3
theorem call__law_told (d0 d1 d2 : D) (S : Store) : g__law_told [d0, d1, d2] S = soOut (m__law_told [some d0, some d1, some d2, none, none, none] S) := run_defR rfl
theorem fn_len__law_told : ∀ (ds : List D) (S : Store), g__law_told ds S ≠ .bad → ds.length = 3 := fnR_len
noncomputable def m__law_is_said : MS := mSeq (mAsg (mLst true (aNil)) (gVar 3)) (mSeq (mFor (iAt (mTup (aCons (mVar 1) (aCons (mVar 2) (aNil))))) (gVar 4) (mSeq (mAsg (mLst true (aNil)) (gVar 5)) (mSeq (mWhile (tVal (mBin (isND true) (mVar 4) (mC .non))) (mSeq (mEx (mMeth .lst appendD (mVar 5) (aCons (mVar 4) (aNil)))) (mAsg (mBin ixD (mBin ixD (mVar 0) (mC (.str "parents"))) (mVar 4)) (gVar 4)))) (mEx (mMeth .lst appendD (mVar 3) (aCons (mVar 5) (aNil))))))) (mSeq (mAsg (mLc false (iAt (mBin (addD false) (mBin ixD (mVar 3) (mC (.int 0))) (mBin ixD (mVar 3) (mC (.int 1))))) [4] (TgS.g (.one 4)) (tVal (mBin neO (mBin (inD false) (mVar 4) (mBin ixD (mVar 3) (mC (.int 0)))) (mBin (inD false) (mVar 4) (mBin ixD (mVar 3) (mC (.int 1)))))) (mVar 4)) (gVar 6)) (mRt (mApp anyD (aCons (mLc false (iAt (mVar 6)) [4] (TgS.g (.one 4)) (tYesD) (mBin eqO (mBin ixD (mBin ixD (mBin ixD (mVar 0) (mC (.str "deeds"))) (mVar 4)) (mC (.int 0))) (mC (.str "say")))) (aNil))))))
noncomputable def g__law_is_said : List D → Store → Out D := fnP m__law_is_said 7 3
theorem call__law_is_said (d0 d1 d2 : D) (S : Store) : g__law_is_said [d0, d1, d2] S = gcOut S (frzOut (soOut (m__law_is_said [some d0, some d1, some d2, none, none, none, none] S))) := run_def rfl
theorem fn_len__law_is_said : ∀ (ds : List D) (S : Store), g__law_is_said ds S ≠ .bad → ds.length = 3 := fnP_len
noncomputable def m__law_turn : MS := mSeq (mAsg (mBin ixD (mVar 3) (mC (.str "here"))) (gVar 4)) (mSeq (mIfS (tVal (mBin ltD (mCall g__law_draw (aCons (mVar 0) (aCons (mVar 1) (aCons (mC (.int 5)) (aNil))))) (mC (.int 3)))) (mSeq (mAsg (mCall g__law_deed (aCons (mVar 0) (aCons (mVar 1) (aCons (mBin ixD (mBin ixD (mVar 3) (mC (.str "boards"))) (mVar 4)) (aNil))))) (gVar 5)) (mSeq (mIfS (tVal (mBin eqO (mCall g__law_draw (aCons (mVar 0) (aCons (mVar 1) (aCons (mC (.int 10)) (aNil))))) (mC (.int 0)))) (mAsg (mTup (aCons (mC (.str "say")) (aCons (mC (.str "hello")) (aNil)))) (gVar 5)) (mNil)) (mSeq (mAsg (mCall g__law_done (aCons (mBin ixD (mBin ixD (mVar 3) (mC (.str "boards"))) (mVar 4)) (aCons (mVar 5) (aNil)))) (gVar 6)) (mSeq (mAsg (mCall g__law_told (aCons (mVar 2) (aCons (mC (.str "do")) (aCons (mVar 5) (aNil))))) (gVar 7)) (mSeq (mIfS (tVal (mBin (isND false) (mVar 6) (mC .non))) (mRt (mBin eqO (mVar 7) (mTup (aCons (mC (.str "refused")) (aCons (mC (.str "deed")) (aNil)))))) (mNil)) (mSeq (mAsg (mApp lenD (aCons (mBin ixD (mVar 3) (mC (.str "boards"))) (aNil))) (gVar 8)) (mSeq (mEx (mMeth .lst appendD (mBin ixD (mVar 3) (mC (.str "boards"))) (aCons (mVar 6) (aNil)))) (mSeq (mEx (mMeth .lst appendD (mBin ixD (mVar 3) (mC (.str "parents"))) (aCons (mVar 4) (aNil)))) (mSeq (mEx (mMeth .lst appendD (mBin ixD (mVar 3) (mC (.str "deeds"))) (aCons (mVar 5) (aNil)))) (mSeq (mPut (mVar 8) (mVar 3) (mC (.str "here"))) (mRt (mBin eqO (mVar 7) (mVar 8))))))))))))) (mNil)) (mSeq (mAsg (mCall g__law_draw (aCons (mVar 0) (aCons (mVar 1) (aCons (mBin (addD false) (mApp lenD (aCons (mBin ixD (mVar 3) (mC (.str "boards"))) (aNil))) (mC (.int 1))) (aNil))))) (gVar 8)) (mSeq (mIfS (tVal (mBin eqO (mVar 8) (mApp lenD (aCons (mBin ixD (mVar 3) (mC (.str "boards"))) (aNil))))) (mRt (mBin eqO (mCall g__law_told (aCons (mVar 2) (aCons (mC (.str "go")) (aCons (mCall g__law_pick (aCons (mVar 0) (aCons (mVar 1) (aCons (mLst false (aCons (mVar 8) (aCons (mUn negD (mC (.int 1))) (aNil)))) (aNil))))) (aNil))))) (mTup (aCons (mC (.str "refused")) (aCons (mC (.str "number")) (aNil)))))) (mNil)) (mSeq (mIfS (tTru (mCall g__law_is_said (aCons (mVar 3) (aCons (mVar 4) (aCons (mVar 8) (aNil)))))) (mRt (mBin eqO (mCall g__law_told (aCons (mVar 2) (aCons (mC (.str "go")) (aCons (mVar 8) (aNil))))) (mTup (aCons (mC (.str "refused")) (aCons (mC (.str "stuck")) (aNil)))))) (mNil)) (mSeq (mPut (mVar 8) (mVar 3) (mC (.str "here"))) (mRt (mBin (isND false) (mCall g__law_told (aCons (mVar 2) (aCons (mC (.str "go")) (aCons (mVar 8) (aNil))))) (mC .non))))))))
noncomputable def g__law_turn : List D → Store → Out D := fnR m__law_turn 9 4
theorem call__law_turn (d0 d1 d2 d3 : D) (S : Store) : g__law_turn [d0, d1, d2, d3] S = soOut (m__law_turn [some d0, some d1, some d2, some d3, none, none, none, none, none] S) := run_defR rfl
theorem fn_len__law_turn : ∀ (ds : List D) (S : Store), g__law_turn ds S ≠ .bad → ds.length = 4 := fnR_len
noncomputable def m__law_nodes : MS := mSeq (mAsg (mLc false (iRng (mVar 2)) [4] (TgS.g (.one 4)) (tVal (mBin (inD true) (mVar 4) (mBin ixD (mVar 1) (mC (.str "parents"))))) (mVar 4)) (gVar 3)) (mSeq (mIfS (tOrD (tVal (mBin neO (mMth "Tree" "many" g_Tree_many (mVar 0) aNil) (mVar 2))) (tVal (mBin neO (mMth "Tree" "tips" g_Tree_tips (mVar 0) aNil) (mVar 3)))) (mRt (mC (.bl false))) (mNil)) (mSeq (mFor (iRng (mVar 2)) (gVar 4) (mSeq (mAsg (mLc false (iRng (mVar 2)) [9] (TgS.g (.one 9)) (tVal (mBin eqO (mBin ixD (mBin ixD (mVar 1) (mC (.str "parents"))) (mVar 9)) (mVar 4))) (mVar 9)) (gVar 5)) (mSeq (mIfS (tOrD (tVal (mBin neO (mMth "Tree" "parent" g_Tree_parent (mVar 0) (aCons (mVar 4) (aNil))) (mBin ixD (mBin ixD (mVar 1) (mC (.str "parents"))) (mVar 4)))) (tVal (mBin neO (mMth "Tree" "children" g_Tree_childrenC (mVar 0) (aCons (mVar 4) (aNil))) (mVar 5)))) (mRt (mC (.bl false))) (mNil)) (mSeq (mAsg (mCall g__law_told (aCons (mVar 0) (aCons (mC (.str "between")) (aCons (mVar 4) (aNil))))) (gVar 6)) (mIfS (tTru (mCall g__law_is_said (aCons (mVar 1) (aCons (mC (.int 0)) (aCons (mVar 4) (aNil)))))) (mIfS (tVal (mBin neO (mVar 6) (mTup (aCons (mC (.str "refused")) (aCons (mC (.str "stuck")) (aNil)))))) (mRt (mC (.bl false))) (mNil)) (mSeq (mAsg (mBin ixD (mBin ixD (mVar 1) (mC (.str "boards"))) (mC (.int 0))) (gVar 7)) (mSeq (mFor (iAt (mVar 6)) (gVar 8) (mAsg (mCall g__law_done (aCons (mVar 7) (aCons (mVar 8) (aNil)))) (gVar 7))) (mIfS (tVal (mBin neO (mVar 7) (mBin ixD (mBin ixD (mVar 1) (mC (.str "boards"))) (mVar 4)))) (mRt (mC (.bl false))) (mNil))))))))) (mRt (mC (.bl true)))))
noncomputable def g__law_nodes : List D → Store → Out D := fnP m__law_nodes 10 3
theorem call__law_nodes (d0 d1 d2 : D) (S : Store) : g__law_nodes [d0, d1, d2] S = gcOut S (frzOut (soOut (m__law_nodes [some d0, some d1, some d2, none, none, none, none, none, none, none] S))) := run_def rfl
theorem fn_len__law_nodes : ∀ (ds : List D) (S : Store), g__law_nodes ds S ≠ .bad → ds.length = 3 := fnP_len
noncomputable def m_law : MS := mSeq (mAsg (mLst true (aNil)) (gVar 1)) (mSeq (mAsg (mCall g__law_board (aCons (mVar 0) (aCons (mVar 1) (aNil)))) (gVar 2)) (mSeq (mAsg (mMk "Tree" g_Tree_init (aCons (mVar 2) (aNil))) (gVar 3)) (mSeq (mAsg (mDict true [(mC (.str "boards"), mLst true (aCons (mVar 2) (aNil))), (mC (.str "parents"), mLst true (aCons (mC .non) (aNil))), (mC (.str "deeds"), mLst true (aCons (mTup (aCons (mC (.str "none")) (aNil))) (aNil))), (mC (.str "here"), mC (.int 0))]) (gVar 4)) (mSeq (mFor (iRng (mCall g__law_draw (aCons (mVar 0) (aCons (mVar 1) (aCons (mC (.int 41)) (aNil)))))) (gVar 5) (mSeq (mIfS (tNotD (tTru (mCall g__law_turn (aCons (mVar 0) (aCons (mVar 1) (aCons (mVar 3) (aCons (mVar 4) (aNil)))))))) (mRt (mC (.bl false))) (mNil)) (mIfS (tOrD (tVal (mBin neO (mMth "Tree" "at" g_Tree_at (mVar 3) aNil) (mBin ixD (mVar 4) (mC (.str "here"))))) (tVal (mBin neO (mMth "Tree" "board" g_Tree_boardC (mVar 3) aNil) (mBin ixD (mBin ixD (mVar 4) (mC (.str "boards"))) (mBin ixD (mVar 4) (mC (.str "here"))))))) (mRt (mC (.bl false))) (mNil)))) (mSeq (mAsg (mApp lenD (aCons (mBin ixD (mVar 4) (mC (.str "boards"))) (aNil))) (gVar 6)) (mSeq (mIfS (tNotD (tTru (mCall g__law_nodes (aCons (mVar 3) (aCons (mVar 4) (aCons (mVar 6) (aNil))))))) (mRt (mC (.bl false))) (mNil)) (mSeq (mAsg (mMth "Tree" "board" g_Tree_boardC (mVar 3) aNil) (gVar 7)) (mSeq (mPut (mTup (aCons (mC (.str "number")) (aCons (mC (.int 1)) (aNil)))) (mVar 7) (mC (.str "late"))) (mSeq (mEx (mMeth .lst appendD (mMth "Tree" "children" g_Tree_childrenC (mVar 3) (aCons (mC (.int 0)) (aNil))) (aCons (mC (.int 99)) (aNil)))) (mSeq (mIfS (tOrD (tVal (mBin neO (mMth "Tree" "board" g_Tree_boardC (mVar 3) aNil) (mBin ixD (mBin ixD (mVar 4) (mC (.str "boards"))) (mBin ixD (mVar 4) (mC (.str "here")))))) (tVal (mBin (inD false) (mC (.int 99)) (mMth "Tree" "children" g_Tree_childrenC (mVar 3) (aCons (mC (.int 0)) (aNil)))))) (mRt (mC (.bl false))) (mNil)) (mRt (mBin eqO (mLc false (iAt (mTup (aCons (mC (.str "parent")) (aCons (mC (.str "children")) (aNil))))) [8] (TgS.g (.one 8)) (tYesD) (mCall g__law_told (aCons (mVar 3) (aCons (mVar 8) (aCons (mVar 6) (aNil)))))) (mBin mulD (mLst false (aCons (mTup (aCons (mC (.str "refused")) (aCons (mC (.str "number")) (aNil)))) (aNil))) (mC (.int 2)))))))))))))))
noncomputable def g_law : List D → Store → Out D := fnP m_law 9 1
theorem call_law (d0 : D) (S : Store) : g_law [d0] S = gcOut S (frzOut (soOut (m_law [some d0, none, none, none, none, none, none, none, none] S))) := run_def rfl
theorem fn_len_law : ∀ (ds : List D) (S : Store), g_law ds S ≠ .bad → ds.length = 1 := fnP_len
section
variable {P : Program} {w : World} {K : PySem.W.Frag} {mg : Str → Option Value} {base : Heap} {x : Ad}
theorem sc_is_word : FnScope ["thing", "sign"] ["thing"] (defScope s_is_word) := ⟨rfl, rfl, rfl, by decide +kernel, rfl, by decide +kernel, by decide +kernel⟩
theorem ok_is_word (T : Txt K w mg x) : FnOk P w K mg base (L2.CX P w) 1 x.f_is_word x.fd_is_word ["thing"] (spD ⟨K, w, x.a⟩ 1 g_is_word) := by
  refine fn_ok (m := m_is_word) (g := g_is_word) rfl rfl rfl T.F_is_word sc_is_word fun cdv A' outer s H E Pv hr => ?_
  have hu := hr.units
  have nd := sc_is_word.nd
  have tk := takes_of (X := cxOf (L2.CX P w) P w K mg base ["thing", "sign"] "is_word" (defScope s_is_word) x.f_is_word cdv A' outer s H E) rfl rfl rfl rfl
  exact (ss_one (ss_ret (se_and (se_chain od_le od_le se_int (se_callB cd_len T.z_len (sa_cons se_var sa_nil)) (se_gi T.g_MOST_WORD)) (se_one (se_callB (cd_all rfl) T.z_all (sa_cons (se_lc (own := [("sign", 1)]) (ts := (.one 1)) rfl nd (si_at se_var) (by show blkC ["thing", "sign"] (defScope s_is_word) _ _ = true; decide +kernel) (fun _ _ _ _ _ => tg_one nd) (fun _ _ _ _ _ _ => spts_nil) (fun _ _ _ _ _ _ => (se_cmp (od_in hu) se_var (se_gs T.g_SMALL)))) sa_nil))))))
theorem sc_is_text : FnScope ["thing", "sign"] ["thing"] (defScope s_is_text) := ⟨rfl, rfl, rfl, by decide +kernel, rfl, by decide +kernel, by decide +kernel⟩
theorem ok_is_text (T : Txt K w mg x) : FnOk P w K mg base (L2.CX P w) 1 x.f_is_text x.fd_is_text ["thing"] (spD ⟨K, w, x.a⟩ 1 g_is_text) := by
  refine fn_ok (m := m_is_text) (g := g_is_text) rfl rfl rfl T.F_is_text sc_is_text fun cdv A' outer s H E Pv hr => ?_
  have hu := hr.units
  have nd := sc_is_text.nd
  have tk := takes_of (X := cxOf (L2.CX P w) P w K mg base ["thing", "sign"] "is_text" (defScope s_is_text) x.f_is_text cdv A' outer s H E) rfl rfl rfl rfl
  exact (ss_one (ss_ret (se_and (se_cmp od_le (se_callB cd_len T.z_len (sa_cons se_var sa_nil)) (se_gi T.g_MOST_TEXT)) (se_one (se_callB (cd_all rfl) T.z_all (sa_cons (se_lc (own := [("sign", 1)]) (ts := (.one 1)) rfl nd (si_at se_var) (by show blkC ["thing", "sign"] (defScope s_is_text) _ _ = true; decide +kernel) (fun _ _ _ _ _ => tg_one nd) (fun _ _ _ _ _ _ => spts_nil) (fun _ _ _ _ _ _ => (se_and (se_chain od_le od_lt se_int (se_callB cd_ord T.z_ord (sa_cons se_var sa_nil)) se_int) (se_one (se_cmp (od_ne hu) (se_callB cd_ord T.z_ord (sa_cons se_var sa_nil)) se_int))))) sa_nil))))))
theorem sc_is_value : FnScope ["value", "word"] ["value"] (defScope s_is_value) := ⟨rfl, rfl, rfl, by decide +kernel, rfl, by decide +kernel, by decide +kernel⟩
theorem ok_is_value (T : Txt K w mg x) : FnOk P w K mg base (L2.CX P w) 2 x.f_is_value x.fd_is_value ["value"] (spD ⟨K, w, x.a⟩ 1 g_is_value) := by
  refine fn_ok (m := m_is_value) (g := g_is_value) rfl rfl rfl T.F_is_value sc_is_value fun cdv A' outer s H E Pv hr => ?_
  have hu := hr.units
  have nd := sc_is_value.nd
  have tk := takes_of (X := cxOf (L2.CX P w) P w K mg base ["value", "word"] "is_value" (defScope s_is_value) x.f_is_value cdv A' outer s H E) rfl rfl rfl rfl
  exact (ss_cons (ss_if (st_cmp (od_ne hu) (se_callB cd_len T.z_len (sa_cons se_var sa_nil)) se_int) (ss_one (ss_ret se_bl)) ss_nil) (ss_cons (ss_if (st_cmp (od_eq hu) (se_ix se_var se_int) se_str) (ss_one (ss_ret (se_call (ok_is_text T) fn_len_is_text (hr.mono (by decide)) T.m_is_text T.F_is_text.kp T.b_is_text tk (sa_cons (se_ix se_var se_int) sa_nil)))) ss_nil) (ss_cons (ss_if (st_cmp (od_eq hu) (se_ix se_var se_int) se_str) (ss_one (ss_ret (se_and (se_cmp od_le (se_callB cd_len T.z_len (sa_cons (se_ix se_var se_int) sa_nil)) (se_gi T.g_MOST_ROW)) (se_one (se_callB (cd_all rfl) T.z_all (sa_cons (se_lc (own := [("word", 1)]) (ts := (.one 1)) rfl nd (si_at (se_ix se_var se_int)) (by show blkC ["value", "word"] (defScope s_is_value) _ _ = true; decide +kernel) (fun _ _ _ _ _ => tg_one nd) (fun _ _ _ _ _ _ => spts_nil) (fun _ _ _ _ _ _ => (se_call (ok_is_word T) fn_len_is_word (hr.mono (by decide)) T.m_is_word T.F_is_word.kp T.b_is_word takes0 (sa_cons se_var sa_nil)))) sa_nil)))))) ss_nil) (ss_one (ss_ret (se_and (se_cmp (od_eq hu) (se_ix se_var se_int) se_str) (se_one (se_cmp od_le (se_callB cd_abs T.z_abs (sa_cons (se_ix se_var se_int) sa_nil)) (se_gi T.g_MOST_NUMBER)))))))))
theorem sc_look_board : FnScope ["board", "name"] ["board"] (defScope s_look_board) := ⟨rfl, rfl, rfl, by decide +kernel, rfl, by decide +kernel, by decide +kernel⟩
theorem ok_look_board (T : Txt K w mg x) : FnOk P w K mg base (L2.CX P w) 3 x.f_look_board x.fd_look_board ["board"] (spD ⟨K, w, x.a⟩ 1 g_look_board) := by
  refine fn_ok (m := m_look_board) (g := g_look_board) rfl rfl rfl T.F_look_board sc_look_board fun cdv A' outer s H E Pv hr => ?_
  have hu := hr.units
  have nd := sc_look_board.nd
  have tk := takes_of (X := cxOf (L2.CX P w) P w K mg base ["board", "name"] "look_board" (defScope s_look_board) x.f_look_board cdv A' outer s H E) rfl rfl rfl rfl
  exact (ss_cons (ss_if (st_cmp od_gt (se_callB cd_len T.z_len (sa_cons se_var sa_nil)) (se_gi T.g_MOST_NAMES)) (ss_one (ss_raise rfl tk PySem.F.excBase_ValueError T.x_BadBoard T.mx_BadBoard T.kx_BadBoard (T.rx_BadBoard _ rfl))) ss_nil) (ss_one (ss_for (passes_of rfl) rfl (si_keys se_var) (sg_name nd) (ss_one (ss_if (sw_pt (sw_or (st_not (st_tru (se_call (ok_is_word T) fn_len_is_word (hr.mono (by decide)) T.m_is_word T.F_is_word.kp T.b_is_word tk (sa_cons se_var sa_nil)))) (sw_or1 (st_not (st_tru (se_call (ok_is_value T) fn_len_is_value (hr.mono (by decide)) T.m_is_value T.F_is_value.kp T.b_is_value tk (sa_cons (se_ix se_var se_var) sa_nil))))))) (ss_one (ss_raise rfl tk PySem.F.excBase_ValueError T.x_BadBoard T.mx_BadBoard T.kx_BadBoard (T.rx_BadBoard _ rfl))) ss_nil)))))
theorem sc_must : FnScope ["right"] ["right"] (defScope s_must) := ⟨rfl, rfl, rfl, by decide +kernel, rfl, by decide +kernel, by decide +kernel⟩
theorem ok_must (T : Txt K w mg x) : FnOk P w K mg base (L2.CX P w) 1 x.f_must x.fd_must ["right"] (spD ⟨K, w, x.a⟩ 1 g_must) := by
  refine fn_ok (m := m_must) (g := g_must) rfl rfl rfl T.F_must sc_must fun cdv A' outer s H E Pv hr => ?_
  have hu := hr.units
  have nd := sc_must.nd
  have tk := takes_of (X := cxOf (L2.CX P w) P w K mg base ["right"] "must" (defScope s_must) x.f_must cdv A' outer s H E) rfl rfl rfl rfl
  exact (ss_one (ss_if (st_not (st_tru se_var)) (ss_one (ss_raise rfl tk PySem.F.excBase_ValueError T.x_BadDeed T.mx_BadDeed T.kx_BadDeed (T.rx_BadDeed _ rfl))) ss_nil))
theorem sc_look_deed : FnScope ["deed", "word", "place"] ["deed"] (defScope s_look_deed) := ⟨rfl, rfl, rfl, by decide +kernel, rfl, by decide +kernel, by decide +kernel⟩
theorem ok_look_deed (T : Txt K w mg x) : FnOk P w K mg base (L2.CX P w) 3 x.f_look_deed x.fd_look_deed ["deed"] (spD ⟨K, w, x.a⟩ 1 g_look_deed) := by
  refine fn_ok (m := m_look_deed) (g := g_look_deed) rfl rfl rfl T.F_look_deed sc_look_deed fun cdv A' outer s H E Pv hr => ?_
  have hu := hr.units
  have nd := sc_look_deed.nd
  have tk := takes_of (X := cxOf (L2.CX P w) P w K mg base ["deed", "word", "place"] "look_deed" (defScope s_look_deed) x.f_look_deed cdv A' outer s H E) rfl rfl rfl rfl
  exact (ss_cons (ss_expr (se_call (ok_must T) fn_len_must (hr.mono (by decide)) T.m_must T.F_must.kp T.b_must tk (sa_cons (se_and (se_cmp od_gt (se_callB cd_len T.z_len (sa_cons se_var sa_nil)) se_int) (se_one (se_or (se_and (se_cmp (od_eq hu) (se_ix se_var se_int) se_str) (se_one (se_cmp (od_eq hu) (se_callB cd_len T.z_len (sa_cons se_var sa_nil)) se_int))) (se_one (se_cmp (od_eq hu) (se_callB cd_len T.z_len (sa_cons se_var sa_nil)) (se_meth (k := .kod) PySem.F.plainAttrs_dict PySem.F.slot_dict_get PySem.F.type_dict_get (md_get2 hu) (se_gk T.g_SIZES) (sa_cons (se_ix se_var se_int) (sa_cons se_int sa_nil)))))))) sa_nil))) (ss_cons (ss_set nd (se_ix se_var se_int)) (ss_cons (ss_expr (se_call (ok_must T) fn_len_must (hr.mono (by decide)) T.m_must T.F_must.kp T.b_must tk (sa_cons (se_call (ok_is_word T) fn_len_is_word (hr.mono (by decide)) T.m_is_word T.F_is_word.kp T.b_is_word tk (sa_cons (se_ix se_var se_int) sa_nil)) sa_nil))) (ss_one (ss_if (st_cmp (od_eq hu) se_var se_str) (ss_one (ss_expr (se_call (ok_must T) fn_len_must (hr.mono (by decide)) T.m_must T.F_must.kp T.b_must tk (sa_cons (se_call (ok_is_value T) fn_len_is_value (hr.mono (by decide)) T.m_is_value T.F_is_value.kp T.b_is_value tk (sa_cons (se_ix se_var se_int) sa_nil)) sa_nil)))) (ss_one (ss_if (st_cmp (od_eq hu) se_var se_str) (ss_one (ss_expr (se_call (ok_must T) fn_len_must (hr.mono (by decide)) T.m_must T.F_must.kp T.b_must tk (sa_cons (se_call (ok_is_word T) fn_len_is_word (hr.mono (by decide)) T.m_is_word T.F_is_word.kp T.b_is_word tk (sa_cons (se_ix se_var se_int) sa_nil)) sa_nil)))) (ss_one (ss_if (st_cmp (od_eq hu) se_var se_str) (ss_one (ss_expr (se_call (ok_must T) fn_len_must (hr.mono (by decide)) T.m_must T.F_must.kp T.b_must tk (sa_cons (se_and (se_cmp od_ge (se_ix se_var se_int) se_int) (se_and (se_cmp (od_ne hu) (se_ix se_var se_int) se_str) (se_one (se_call (ok_is_text T) fn_len_is_text (hr.mono (by decide)) T.m_is_text T.F_is_text.kp T.b_is_text tk (sa_cons (se_ix se_var se_int) sa_nil))))) sa_nil)))) (ss_one (ss_if (st_cmp (od_eq hu) se_var se_str) (ss_one (ss_expr (se_call (ok_must T) fn_len_must (hr.mono (by decide)) T.m_must T.F_must.kp T.b_must tk (sa_cons (se_and (se_cmp od_ge (se_ix se_var se_int) se_int) (se_one (se_call (ok_is_word T) fn_len_is_word (hr.mono (by decide)) T.m_is_word T.F_is_word.kp T.b_is_word tk (sa_cons (se_ix se_var se_int) sa_nil)))) sa_nil)))) (ss_one (ss_if (st_cmp (od_eq hu) se_var se_str) (ss_one (ss_expr (se_call (ok_must T) fn_len_must (hr.mono (by decide)) T.m_must T.F_must.kp T.b_must tk (sa_cons (se_and (se_cmp od_ge (se_ix se_var se_int) se_int) (se_one (se_cmp od_gt (se_ix se_var se_int) se_int))) sa_nil)))) (ss_one (ss_if (st_cmp (od_in hu) se_var (se_tup (sa_cons se_str (sa_cons se_str sa_nil)))) (ss_one (ss_expr (se_call (ok_must T) fn_len_must (hr.mono (by decide)) T.m_must T.F_must.kp T.b_must tk (sa_cons (se_cmp od_le (se_callB cd_abs T.z_abs (sa_cons (se_ix se_var se_int) sa_nil)) (se_gi T.g_MOST_NUMBER)) sa_nil)))) (ss_one (ss_expr (se_call (ok_must T) fn_len_must (hr.mono (by decide)) T.m_must T.F_must.kp T.b_must tk (sa_cons (se_callB (cd_all rfl) T.z_all (sa_cons (se_lc (own := [("place", 2)]) (ts := (.one 2)) rfl nd (si_at (se_sl se_var (so_some se_int) so_none)) (by show blkC ["deed", "word", "place"] (defScope s_look_deed) _ _ = true; decide +kernel) (fun _ _ _ _ _ => tg_one nd) (fun _ _ _ _ _ _ => spts_nil) (fun _ _ _ _ _ _ => (se_cmp od_ge se_var se_int))) sa_nil)) sa_nil)))))))))))))))))))
theorem sc_with_value : FnScope ["board", "name", "value", "found"] ["board", "name", "value"] (defScope s_with_value) := ⟨rfl, rfl, rfl, by decide +kernel, rfl, by decide +kernel, by decide +kernel⟩
theorem ok_with_value (T : Txt K w mg x) : FnOk P w K mg base (L2.CX P w) 1 x.f_with_value x.fd_with_value ["board", "name", "value"] (spD ⟨K, w, x.a⟩ 3 g_with_value) := by
  refine fn_ok (m := m_with_value) (g := g_with_value) rfl rfl rfl T.F_with_value sc_with_value fun cdv A' outer s H E Pv hr => ?_
  have hu := hr.units
  have nd := sc_with_value.nd
  have tk := takes_of (X := cxOf (L2.CX P w) P w K mg base ["board", "name", "value", "found"] "with_value" (defScope s_with_value) x.f_with_value cdv A' outer s H E) rfl rfl rfl rfl
  exact (ss_cons (ss_set nd (se_meth0 (k := .dct) PySem.F.plainAttrs_dict PySem.F.slot_dict_copy PySem.F.type_dict_copy md_copy se_var)) (ss_cons (ss_put hu se_var se_var se_var) (ss_one (ss_ret se_var))))
theorem sc_without : FnScope ["board", "name", "found"] ["board", "name"] (defScope s_without) := ⟨rfl, rfl, rfl, by decide +kernel, rfl, by decide +kernel, by decide +kernel⟩
theorem ok_without (T : Txt K w mg x) : FnOk P w K mg base (L2.CX P w) 1 x.f_without x.fd_without ["board", "name"] (spD ⟨K, w, x.a⟩ 2 g_without) := by
  refine fn_ok (m := m_without) (g := g_without) rfl rfl rfl T.F_without sc_without fun cdv A' outer s H E Pv hr => ?_
  have hu := hr.units
  have nd := sc_without.nd
  have tk := takes_of (X := cxOf (L2.CX P w) P w K mg base ["board", "name", "found"] "without" (defScope s_without) x.f_without cdv A' outer s H E) rfl rfl rfl rfl
  exact (ss_cons (ss_set nd (se_meth0 (k := .dct) PySem.F.plainAttrs_dict PySem.F.slot_dict_copy PySem.F.type_dict_copy md_copy se_var)) (ss_cons (ss_expr (se_meth (k := .dct) PySem.F.plainAttrs_dict PySem.F.slot_dict_pop PySem.F.type_dict_pop md_dpop se_var (sa_cons se_var sa_nil))) (ss_one (ss_ret se_var))))
theorem sc_on_names : FnScope ["board", "deed", "word", "name"] ["board", "deed"] (defScope s_on_names) := ⟨rfl, rfl, rfl, by decide +kernel, rfl, by decide +kernel, by decide +kernel⟩
theorem ok_on_names (T : Txt K w mg x) : FnOk P w K mg base (L2.CX P w) 2 x.f_on_names x.fd_on_names ["board", "deed"] (spD ⟨K, w, x.a⟩ 2 g_on_names) := by
  refine fn_ok (m := m_on_names) (g := g_on_names) rfl rfl rfl T.F_on_names sc_on_names fun cdv A' outer s H E Pv hr => ?_
  have hu := hr.units
  have nd := sc_on_names.nd
  have tk := takes_of (X := cxOf (L2.CX P w) P w K mg base ["board", "deed", "word", "name"] "on_names" (defScope s_on_names) x.f_on_names cdv A' outer s H E) rfl rfl rfl rfl
  exact (ss_cons (ss_asg (se_sl se_var so_none (so_some se_int)) (sg_tup rfl (sgs_cons (sg_name nd) (sgs_cons (sg_name nd) sgs_nil)))) (ss_cons (ss_if (st_cmp (od_eq hu) se_var se_str) (ss_cons (ss_expr (se_call (ok_must T) fn_len_must (hr.mono (by decide)) T.m_must T.F_must.kp T.b_must tk (sa_cons (se_and (se_cmp (od_notin hu) se_var se_var) (se_one (se_cmp od_lt (se_callB cd_len T.z_len (sa_cons se_var sa_nil)) (se_gi T.g_MOST_NAMES)))) sa_nil))) (ss_one (ss_ret (se_call (ok_with_value T) fn_len_with_value (hr.mono (by decide)) T.m_with_value T.F_with_value.kp T.b_with_value tk (sa_cons se_var (sa_cons se_var (sa_cons (se_tup (sa_cons (se_ix (se_ix se_var se_int) se_int) (sa_cons (se_if (st_cmp (od_eq hu) (se_ix (se_ix se_var se_int) se_int) se_str) (se_callTy cd_tuple T.z_tuple (sa_cons (se_ix (se_ix se_var se_int) se_int) sa_nil)) (se_ix (se_ix se_var se_int) se_int)) sa_nil))) sa_nil))))))) ss_nil) (ss_cons (ss_expr (se_call (ok_must T) fn_len_must (hr.mono (by decide)) T.m_must T.F_must.kp T.b_must tk (sa_cons (se_cmp (od_in hu) se_var se_var) sa_nil))) (ss_cons (ss_if (st_cmp (od_eq hu) se_var se_str) (ss_one (ss_ret (se_call (ok_without T) fn_len_without (hr.mono (by decide)) T.m_without T.F_without.kp T.b_without tk (sa_cons se_var (sa_cons se_var sa_nil))))) ss_nil) (ss_cons (ss_expr (se_call (ok_must T) fn_len_must (hr.mono (by decide)) T.m_must T.F_must.kp T.b_must tk (sa_cons (se_cmp (od_notin hu) (se_ix se_var se_int) se_var) sa_nil))) (ss_one (ss_ret (se_call (ok_with_value T) fn_len_with_value (hr.mono (by decide)) T.m_with_value T.F_with_value.kp T.b_with_value tk (sa_cons (se_call (ok_without T) fn_len_without (hr.mono (by decide)) T.m_without T.F_without.kp T.b_without tk (sa_cons se_var (sa_cons se_var sa_nil))) (sa_cons (se_ix se_var se_int) (sa_cons (se_ix se_var se_var) sa_nil)))))))))))
theorem sc_on_text : FnScope ["text", "deed", "at"] ["text", "deed"] (defScope s_on_text) := ⟨rfl, rfl, rfl, by decide +kernel, rfl, by decide +kernel, by decide +kernel⟩
theorem ok_on_text (T : Txt K w mg x) : FnOk P w K mg base (L2.CX P w) 2 x.f_on_text x.fd_on_text ["text", "deed"] (spD ⟨K, w, x.a⟩ 2 g_on_text) := by
  refine fn_ok (m := m_on_text) (g := g_on_text) rfl rfl rfl T.F_on_text sc_on_text fun cdv A' outer s H E Pv hr => ?_
  have hu := hr.units
  have nd := sc_on_text.nd
  have tk := takes_of (X := cxOf (L2.CX P w) P w K mg base ["text", "deed", "at"] "on_text" (defScope s_on_text) x.f_on_text cdv A' outer s H E) rfl rfl rfl rfl
  exact (ss_cons (ss_set nd (se_ix se_var se_int)) (ss_cons (ss_if (st_cmp (od_eq hu) (se_ix se_var se_int) se_str) (ss_cons (ss_expr (se_call (ok_must T) fn_len_must (hr.mono (by decide)) T.m_must T.F_must.kp T.b_must tk (sa_cons (se_and (se_cmp od_le se_var (se_callB cd_len T.z_len (sa_cons se_var sa_nil))) (se_one (se_cmp od_le (se_bin od_add (se_callB cd_len T.z_len (sa_cons se_var sa_nil)) (se_callB cd_len T.z_len (sa_cons (se_ix se_var se_int) sa_nil))) (se_gi T.g_MOST_TEXT)))) sa_nil))) (ss_one (ss_ret (se_bin od_add (se_bin od_add (se_sl se_var so_none (so_some se_var)) (se_ix se_var se_int)) (se_sl se_var (so_some se_var) so_none))))) ss_nil) (ss_cons (ss_expr (se_call (ok_must T) fn_len_must (hr.mono (by decide)) T.m_must T.F_must.kp T.b_must tk (sa_cons (se_cmp od_le (se_bin od_add se_var (se_ix se_var se_int)) (se_callB cd_len T.z_len (sa_cons se_var sa_nil))) sa_nil))) (ss_one (ss_ret (se_bin od_add (se_sl se_var so_none (so_some se_var)) (se_sl se_var (so_some (se_bin od_add se_var (se_ix se_var se_int))) so_none)))))))
theorem sc_on_row : FnScope ["row", "deed", "at", "left"] ["row", "deed"] (defScope s_on_row) := ⟨rfl, rfl, rfl, by decide +kernel, rfl, by decide +kernel, by decide +kernel⟩
theorem ok_on_row (T : Txt K w mg x) : FnOk P w K mg base (L2.CX P w) 2 x.f_on_row x.fd_on_row ["row", "deed"] (spD ⟨K, w, x.a⟩ 2 g_on_row) := by
  refine fn_ok (m := m_on_row) (g := g_on_row) rfl rfl rfl T.F_on_row sc_on_row fun cdv A' outer s H E Pv hr => ?_
  have hu := hr.units
  have nd := sc_on_row.nd
  have tk := takes_of (X := cxOf (L2.CX P w) P w K mg base ["row", "deed", "at", "left"] "on_row" (defScope s_on_row) x.f_on_row cdv A' outer s H E) rfl rfl rfl rfl
  exact (ss_cons (ss_set nd (se_ix se_var se_int)) (ss_cons (ss_if (st_cmp (od_eq hu) (se_ix se_var se_int) se_str) (ss_cons (ss_expr (se_call (ok_must T) fn_len_must (hr.mono (by decide)) T.m_must T.F_must.kp T.b_must tk (sa_cons (se_and (se_cmp od_le se_var (se_callB cd_len T.z_len (sa_cons se_var sa_nil))) (se_one (se_cmp od_lt (se_callB cd_len T.z_len (sa_cons se_var sa_nil)) (se_gi T.g_MOST_ROW)))) sa_nil))) (ss_one (ss_ret (se_bin od_add (se_bin od_add (se_sl se_var so_none (so_some se_var)) (se_tup (sa_cons (se_ix se_var se_int) sa_nil))) (se_sl se_var (so_some se_var) so_none))))) ss_nil) (ss_cons (ss_expr (se_call (ok_must T) fn_len_must (hr.mono (by decide)) T.m_must T.F_must.kp T.b_must tk (sa_cons (se_cmp od_lt se_var (se_callB cd_len T.z_len (sa_cons se_var sa_nil))) sa_nil))) (ss_cons (ss_set nd (se_bin od_add (se_sl se_var so_none (so_some se_var)) (se_sl se_var (so_some (se_bin od_add se_var se_int)) so_none))) (ss_cons (ss_if (st_cmp (od_eq hu) (se_ix se_var se_int) se_str) (ss_one (ss_ret se_var)) ss_nil) (ss_cons (ss_expr (se_call (ok_must T) fn_len_must (hr.mono (by decide)) T.m_must T.F_must.kp T.b_must tk (sa_cons (se_cmp od_lt (se_ix se_var se_int) (se_callB cd_len T.z_len (sa_cons se_var sa_nil))) sa_nil))) (ss_one (ss_ret (se_bin od_add (se_bin od_add (se_sl se_var so_none (so_some (se_ix se_var se_int))) (se_tup (sa_cons (se_ix se_var se_var) sa_nil))) (se_sl se_var (so_some (se_ix se_var se_int)) so_none))))))))))
theorem sc_done : FnScope ["board", "deed", "word", "name", "kind", "value", "number"] ["board", "deed"] (defScope s_done) := ⟨rfl, rfl, rfl, by decide +kernel, rfl, by decide +kernel, by decide +kernel⟩
theorem ok_done (T : Txt K w mg x) : FnOk P w K mg base (L2.CX P w) 4 x.f_done x.fd_done ["board", "deed"] (spD ⟨K, w, x.a⟩ 2 g_done) := by
  refine fn_ok (m := m_done) (g := g_done) rfl rfl rfl T.F_done sc_done fun cdv A' outer s H E Pv hr => ?_
  have hu := hr.units
  have nd := sc_done.nd
  have tk := takes_of (X := cxOf (L2.CX P w) P w K mg base ["board", "deed", "word", "name", "kind", "value", "number"] "done" (defScope s_done) x.f_done cdv A' outer s H E) rfl rfl rfl rfl
  exact (ss_cons (ss_expr (se_call (ok_look_deed T) fn_len_look_deed (hr.mono (by decide)) T.m_look_deed T.F_look_deed.kp T.b_look_deed tk (sa_cons se_var sa_nil))) (ss_cons (ss_asg (se_sl se_var so_none (so_some se_int)) (sg_tup rfl (sgs_cons (sg_name nd) (sgs_cons (sg_name nd) sgs_nil)))) (ss_cons (ss_if (st_cmp (od_eq hu) se_var se_str) (ss_one (ss_ret (se_meth0 (k := .dct) PySem.F.plainAttrs_dict PySem.F.slot_dict_copy PySem.F.type_dict_copy md_copy se_var))) ss_nil) (ss_cons (ss_if (st_cmp (od_in hu) se_var (se_tup (sa_cons se_str (sa_cons se_str (sa_cons se_str sa_nil))))) (ss_one (ss_ret (se_call (ok_on_names T) fn_len_on_names (hr.mono (by decide)) T.m_on_names T.F_on_names.kp T.b_on_names tk (sa_cons se_var (sa_cons se_var sa_nil))))) ss_nil) (ss_cons (ss_expr (se_call (ok_must T) fn_len_must (hr.mono (by decide)) T.m_must T.F_must.kp T.b_must tk (sa_cons (se_and (se_cmp (od_in hu) se_var se_var) (se_one (se_cmp (od_eq hu) (se_ix (se_ix se_var se_var) se_int) (se_ix (se_gk T.g_KINDS) se_var)))) sa_nil))) (ss_cons (ss_asg (se_ix se_var se_var) (sg_tup rfl (sgs_cons (sg_name nd) (sgs_cons (sg_name nd) sgs_nil)))) (ss_cons (ss_if (st_cmp (od_eq hu) se_var se_str) (ss_one (ss_ret (se_call (ok_with_value T) fn_len_with_value (hr.mono (by decide)) T.m_with_value T.F_with_value.kp T.b_with_value tk (sa_cons se_var (sa_cons se_var (sa_cons (se_tup (sa_cons se_var (sa_cons (se_call (ok_on_text T) fn_len_on_text (hr.mono (by decide)) T.m_on_text T.F_on_text.kp T.b_on_text tk (sa_cons se_var (sa_cons se_var sa_nil))) sa_nil))) sa_nil)))))) ss_nil) (ss_cons (ss_if (st_cmp (od_eq hu) se_var se_str) (ss_one (ss_ret (se_call (ok_with_value T) fn_len_with_value (hr.mono (by decide)) T.m_with_value T.F_with_value.kp T.b_with_value tk (sa_cons se_var (sa_cons se_var (sa_cons (se_tup (sa_cons se_var (sa_cons (se_call (ok_on_row T) fn_len_on_row (hr.mono (by decide)) T.m_on_row T.F_on_row.kp T.b_on_row tk (sa_cons se_var (sa_cons se_var sa_nil))) sa_nil))) sa_nil)))))) ss_nil) (ss_cons (ss_set nd (se_if (st_cmp (od_eq hu) se_var se_str) (se_ix se_var se_int) (se_bin od_add se_var (se_ix se_var se_int)))) (ss_cons (ss_expr (se_call (ok_must T) fn_len_must (hr.mono (by decide)) T.m_must T.F_must.kp T.b_must tk (sa_cons (se_cmp od_le (se_callB cd_abs T.z_abs (sa_cons se_var sa_nil)) (se_gi T.g_MOST_NUMBER)) sa_nil))) (ss_one (ss_ret (se_call (ok_with_value T) fn_len_with_value (hr.mono (by decide)) T.m_with_value T.F_with_value.kp T.b_with_value tk (sa_cons se_var (sa_cons se_var (sa_cons (se_tup (sa_cons se_var (sa_cons se_var sa_nil))) sa_nil))))))))))))))))
theorem sc_back : FnScope ["board", "deed", "word", "name"] ["board", "deed"] (defScope s_back) := ⟨rfl, rfl, rfl, by decide +kernel, rfl, by decide +kernel, by decide +kernel⟩
theorem ok_back (T : Txt K w mg x) : FnOk P w K mg base (L2.CX P w) 5 x.f_back x.fd_back ["board", "deed"] (spD ⟨K, w, x.a⟩ 2 g_back) := by
  refine fn_ok (m := m_back) (g := g_back) rfl rfl rfl T.F_back sc_back fun cdv A' outer s H E Pv hr => ?_
  have hu := hr.units
  have nd := sc_back.nd
  have tk := takes_of (X := cxOf (L2.CX P w) P w K mg base ["board", "deed", "word", "name"] "back" (defScope s_back) x.f_back cdv A' outer s H E) rfl rfl rfl rfl
  exact (ss_cons (ss_expr (se_call (ok_done T) fn_len_done (hr.mono (by decide)) T.m_done T.F_done.kp T.b_done tk (sa_cons se_var (sa_cons se_var sa_nil)))) (ss_cons (ss_asg (se_sl se_var so_none (so_some se_int)) (sg_tup rfl (sgs_cons (sg_name nd) (sgs_cons (sg_name nd) sgs_nil)))) (ss_cons (ss_if (st_cmp (od_eq hu) se_var se_str) (ss_one (ss_ret se_non)) ss_nil) (ss_cons (ss_if (st_cmp (od_eq hu) se_var se_str) (ss_one (ss_ret (se_tup (sa_cons se_str (sa_cons se_var sa_nil))))) ss_nil) (ss_cons (ss_if (st_cmp (od_eq hu) se_var se_str) (ss_one (ss_ret (se_tup (sa_cons se_str (sa_cons se_var (sa_cons (se_ix se_var se_var) sa_nil)))))) ss_nil) (ss_cons (ss_if (st_cmp (od_eq hu) se_var se_str) (ss_one (ss_ret (se_tup (sa_cons se_str (sa_cons (se_ix se_var se_int) (sa_cons se_var sa_nil)))))) ss_nil) (ss_cons (ss_if (st_cmp (od_eq hu) se_var se_str) (ss_one (ss_ret (se_tup (sa_cons se_str (sa_cons se_var (sa_cons (se_ix se_var se_int) (sa_cons (se_callB cd_len T.z_len (sa_cons (se_ix se_var se_int) sa_nil)) sa_nil))))))) ss_nil) (ss_cons (ss_if (st_cmp (od_eq hu) se_var se_str) (ss_one (ss_ret (se_tup (sa_cons se_str (sa_cons se_var (sa_cons (se_ix se_var se_int) (sa_cons (se_sl (se_ix (se_ix se_var se_var) se_int) (so_some (se_ix se_var se_int)) (so_some (se_bin od_add (se_ix se_var se_int) (se_ix se_var se_int)))) sa_nil))))))) ss_nil) (ss_cons (ss_if (st_cmp (od_eq hu) se_var se_str) (ss_one (ss_ret (se_tup (sa_cons se_str (sa_cons se_var (sa_cons (se_ix se_var se_int) sa_nil)))))) ss_nil) (ss_cons (ss_if (st_cmp (od_eq hu) se_var se_str) (ss_one (ss_ret (se_tup (sa_cons se_str (sa_cons se_var (sa_cons (se_ix se_var se_int) (sa_cons (se_ix (se_ix (se_ix se_var se_var) se_int) (se_ix se_var se_int)) sa_nil))))))) ss_nil) (ss_cons (ss_if (st_cmp (od_eq hu) se_var se_str) (ss_one (ss_ret (se_tup (sa_cons se_str (sa_cons se_var (sa_cons (se_ix se_var se_int) (sa_cons (se_ix se_var se_int) sa_nil))))))) ss_nil) (ss_one (ss_ret (se_if (st_cmp (od_eq hu) se_var se_str) (se_tup (sa_cons se_str (sa_cons se_var (sa_cons (se_ix (se_ix se_var se_var) se_int) sa_nil)))) (se_tup (sa_cons se_str (sa_cons se_var (sa_cons (se_bin od_sub se_int (se_ix se_var se_int)) sa_nil))))))))))))))))))
theorem sc_all_done : FnScope ["board", "deeds", "deed"] ["board", "deeds"] (defScope s_all_done) := ⟨rfl, rfl, rfl, by decide +kernel, rfl, by decide +kernel, by decide +kernel⟩
theorem ok_all_done (T : Txt K w mg x) : FnOk P w K mg base (L2.CX P w) 5 x.f_all_done x.fd_all_done ["board", "deeds"] (spD ⟨K, w, x.a⟩ 2 g_all_done) := by
  refine fn_ok (m := m_all_done) (g := g_all_done) rfl rfl rfl T.F_all_done sc_all_done fun cdv A' outer s H E Pv hr => ?_
  have hu := hr.units
  have nd := sc_all_done.nd
  have tk := takes_of (X := cxOf (L2.CX P w) P w K mg base ["board", "deeds", "deed"] "all_done" (defScope s_all_done) x.f_all_done cdv A' outer s H E) rfl rfl rfl rfl
  exact (ss_cons (ss_for (passes_of rfl) rfl (si_at se_var) (sg_name nd) (ss_one (ss_set nd (se_call (ok_done T) fn_len_done (hr.mono (by decide)) T.m_done T.F_done.kp T.b_done tk (sa_cons se_var (sa_cons se_var sa_nil)))))) (ss_one (ss_ret se_var)))
theorem sc_Node_init : FnScope ["self", "parent", "deed", "other"] ["self", "parent", "deed", "other"] (defScope s_Node_init) := ⟨rfl, rfl, rfl, by decide +kernel, rfl, by decide +kernel, by decide +kernel⟩
theorem ok_Node_init (T : Txt K w mg x) : FnOk P w K mg base (L2.CX P w) 1 x.f_Node_init x.fd_Node_init ["self", "parent", "deed", "other"] (spD ⟨K, w, x.a⟩ 4 g_Node_init) := by
  refine fn_okR (m := m_Node_init) (g := g_Node_init) rfl rfl rfl T.F_Node_init sc_Node_init fun cdv A' outer s H E Pv hr => ?_
  have hu := hr.units
  have nd := sc_Node_init.nd
  have tk := takes_of (X := cxOf (L2.CX P w) P w K mg base ["self", "parent", "deed", "other"] "Node.__init__" (defScope s_Node_init) x.f_Node_init cdv A' outer s H E) rfl rfl rfl rfl
  exact (ss_cons (ss_fld T.c_Node T.n_Node_origin se_var se_var) (ss_cons (ss_fld T.c_Node T.n_Node_deed se_var se_var) (ss_cons (ss_fld T.c_Node T.n_Node_other se_var se_var) (ss_one (ss_fld T.c_Node T.n_Node_comes se_var (se_lst sa_nil))))))
theorem sc_Tree_init : FnScope ["self", "board", "name"] ["self", "board"] (defScope s_Tree_init) := ⟨rfl, rfl, rfl, by decide +kernel, rfl, by decide +kernel, by decide +kernel⟩
theorem ok_Tree_init (T : Txt K w mg x) : FnOk P w K mg base (L2.CX P w) 6 x.f_Tree_init x.fd_Tree_init ["self", "board"] (spD ⟨K, w, x.a⟩ 2 g_Tree_init) := by
  refine fn_okR (m := m_Tree_init) (g := g_Tree_init) rfl rfl rfl T.F_Tree_init sc_Tree_init fun cdv A' outer s H E Pv hr => ?_
  have hu := hr.units
  have nd := sc_Tree_init.nd
  have tk := takes_of (X := cxOf (L2.CX P w) P w K mg base ["self", "board", "name"] "Tree.__init__" (defScope s_Tree_init) x.f_Tree_init cdv A' outer s H E) rfl rfl rfl rfl
  exact (ss_cons (ss_expr (se_call (ok_look_board T) fn_len_look_board (hr.mono (by decide)) T.m_look_board T.F_look_board.kp T.b_look_board tk (sa_cons se_var sa_nil))) (ss_cons (ss_fld T.c_Tree T.n_Tree_here_board se_var (se_call (ok_all_done T) fn_len_all_done (hr.mono (by decide)) T.m_all_done T.F_all_done.kp T.b_all_done tk (sa_cons se_dict0 (sa_cons (se_lc (own := [("name", 2)]) (ts := (.one 2)) rfl nd (si_at (se_callB (cd_sorted rfl) T.z_sorted (sa_cons (se_meth0 (k := .dct) PySem.F.plainAttrs_dict PySem.F.slot_dict_keys PySem.F.type_dict_keys md_keys se_var) sa_nil))) (by show blkC ["self", "board", "name"] (defScope s_Tree_init) _ _ = true; decide +kernel) (fun _ _ _ _ _ => tg_one nd) (fun _ _ _ _ _ _ => spts_nil) (fun _ _ _ _ _ _ => (se_tup (sa_cons se_str (sa_cons se_var (sa_cons (se_ix se_var se_var) sa_nil)))))) sa_nil)))) (ss_cons (ss_fld T.c_Tree T.n_Tree_nodes se_var se_dict0) (ss_cons (ss_put hu (se_fld T.c_Tree T.n_Tree_nodes se_var) se_int (se_mk T.mk_Node (ok_Node_init T) fn_len_Node_init (hr.mono (by decide)) T.mc_Node T.b_Node_init tk (sa_cons se_non (sa_cons se_non (sa_cons se_non sa_nil))))) (ss_cons (ss_fld T.c_Tree T.n_Tree_here se_var se_int) (ss_cons (ss_fld T.c_Tree T.n_Tree_last se_var se_int) (ss_one (ss_fld T.c_Tree T.n_Tree_marked se_var se_dict0))))))))
theorem sc_Tree_board : FnScope ["self"] ["self"] (defScope s_Tree_board) := ⟨rfl, rfl, rfl, by decide +kernel, rfl, by decide +kernel, by decide +kernel⟩
theorem ok_Tree_board (T : Txt K w mg x) : FnOk P w K mg base (L2.CX P w) 1 x.f_Tree_board x.fd_Tree_board ["self"] (spD ⟨K, w, x.a⟩ 1 g_Tree_boardC) := by
  refine fn_okR (m := m_Tree_boardC) (g := g_Tree_boardC) rfl rfl rfl T.F_Tree_board sc_Tree_board fun cdv A' outer s H E Pv hr => ?_
  have hu := hr.units
  have nd := sc_Tree_board.nd
  have tk := takes_of (X := cxOf (L2.CX P w) P w K mg base ["self"] "Tree.board" (defScope s_Tree_board) x.f_Tree_board cdv A' outer s H E) rfl rfl rfl rfl
  exact (ss_one (ss_ret (se_meth0 (k := .dct) PySem.F.plainAttrs_dict PySem.F.slot_dict_copy PySem.F.type_dict_copy md_copy (se_fld T.c_Tree T.n_Tree_here_board se_var))))
theorem sc_Tree_at : FnScope ["self"] ["self"] (defScope s_Tree_at) := ⟨rfl, rfl, rfl, by decide +kernel, rfl, by decide +kernel, by decide +kernel⟩
theorem ok_Tree_at (T : Txt K w mg x) : FnOk P w K mg base (L2.CX P w) 1 x.f_Tree_at x.fd_Tree_at ["self"] (spD ⟨K, w, x.a⟩ 1 g_Tree_at) := by
  refine fn_ok (m := m_Tree_at) (g := g_Tree_at) rfl rfl rfl T.F_Tree_at sc_Tree_at fun cdv A' outer s H E Pv hr => ?_
  have hu := hr.units
  have nd := sc_Tree_at.nd
  have tk := takes_of (X := cxOf (L2.CX P w) P w K mg base ["self"] "Tree.at" (defScope s_Tree_at) x.f_Tree_at cdv A' outer s H E) rfl rfl rfl rfl
  exact (ss_one (ss_ret (se_fld T.c_Tree T.n_Tree_here se_var)))
theorem sc_Tree_need : FnScope ["self", "node"] ["self", "node"] (defScope s_Tree_need) := ⟨rfl, rfl, rfl, by decide +kernel, rfl, by decide +kernel, by decide +kernel⟩
theorem ok_Tree_need (T : Txt K w mg x) : FnOk P w K mg base (L2.CX P w) 1 x.f_Tree_need x.fd_Tree_need ["self", "node"] (spD ⟨K, w, x.a⟩ 2 g_Tree_need) := by
  refine fn_ok (m := m_Tree_need) (g := g_Tree_need) rfl rfl rfl T.F_Tree_need sc_Tree_need fun cdv A' outer s H E Pv hr => ?_
  have hu := hr.units
  have nd := sc_Tree_need.nd
  have tk := takes_of (X := cxOf (L2.CX P w) P w K mg base ["self", "node"] "Tree.need" (defScope s_Tree_need) x.f_Tree_need cdv A' outer s H E) rfl rfl rfl rfl
  exact (ss_one (ss_if (st_cmp (od_notin hu) se_var (se_fld T.c_Tree T.n_Tree_nodes se_var)) (ss_one (ss_raise rfl tk PySem.F.excBase_ValueError T.x_BadNumber T.mx_BadNumber T.kx_BadNumber (T.rx_BadNumber _ rfl))) ss_nil))
theorem sc_Tree_do : FnScope ["self", "deed", "other"] ["self", "deed"] (defScope s_Tree_do) := ⟨rfl, rfl, rfl, by decide +kernel, rfl, by decide +kernel, by decide +kernel⟩
theorem ok_Tree_do (T : Txt K w mg x) : FnOk P w K mg base (L2.CX P w) 6 x.f_Tree_do x.fd_Tree_do ["self", "deed"] (spD ⟨K, w, x.a⟩ 2 g_Tree_do) := by
  refine fn_okR (m := m_Tree_do) (g := g_Tree_do) rfl rfl rfl T.F_Tree_do sc_Tree_do fun cdv A' outer s H E Pv hr => ?_
  have hu := hr.units
  have nd := sc_Tree_do.nd
  have tk := takes_of (X := cxOf (L2.CX P w) P w K mg base ["self", "deed", "other"] "Tree.do" (defScope s_Tree_do) x.f_Tree_do cdv A' outer s H E) rfl rfl rfl rfl
  exact (ss_cons (ss_set nd (se_call (ok_back T) fn_len_back (hr.mono (by decide)) T.m_back T.F_back.kp T.b_back tk (sa_cons (se_fld T.c_Tree T.n_Tree_here_board se_var) (sa_cons se_var sa_nil)))) (ss_cons (ss_fld T.c_Tree T.n_Tree_here_board se_var (se_call (ok_done T) fn_len_done (hr.mono (by decide)) T.m_done T.F_done.kp T.b_done tk (sa_cons (se_fld T.c_Tree T.n_Tree_here_board se_var) (sa_cons se_var sa_nil)))) (ss_cons (ss_fld T.c_Tree T.n_Tree_last se_var (se_bin od_add (se_fld T.c_Tree T.n_Tree_last se_var) se_int)) (ss_cons (ss_put hu (se_fld T.c_Tree T.n_Tree_nodes se_var) (se_fld T.c_Tree T.n_Tree_last se_var) (se_mk T.mk_Node (ok_Node_init T) fn_len_Node_init (hr.mono (by decide)) T.mc_Node T.b_Node_init tk (sa_cons (se_fld T.c_Tree T.n_Tree_here se_var) (sa_cons se_var (sa_cons se_var sa_nil))))) (ss_cons (ss_expr (se_meth (k := .lst) PySem.F.plainAttrs_list PySem.F.slot_list_append PySem.F.type_list_append md_append (se_fld T.c_Node T.n_Node_comes (se_ix (se_fld T.c_Tree T.n_Tree_nodes se_var) (se_fld T.c_Tree T.n_Tree_here se_var))) (sa_cons (se_fld T.c_Tree T.n_Tree_last se_var) sa_nil))) (ss_cons (ss_fld T.c_Tree T.n_Tree_here se_var (se_fld T.c_Tree T.n_Tree_last se_var)) (ss_one (ss_ret (se_fld T.c_Tree T.n_Tree_last se_var)))))))))
theorem sc_Tree_above : FnScope ["self", "node", "found"] ["self", "node"] (defScope s_Tree_above) := ⟨rfl, rfl, rfl, by decide +kernel, rfl, by decide +kernel, by decide +kernel⟩
theorem ok_Tree_above (T : Txt K w mg x) : FnOk P w K mg base (L2.CX P w) 2 x.f_Tree_above x.fd_Tree_above ["self", "node"] (spD ⟨K, w, x.a⟩ 2 g_Tree_above) := by
  refine fn_ok (m := m_Tree_above) (g := g_Tree_above) rfl rfl rfl T.F_Tree_above sc_Tree_above fun cdv A' outer s H E Pv hr => ?_
  have hu := hr.units
  have nd := sc_Tree_above.nd
  have tk := takes_of (X := cxOf (L2.CX P w) P w K mg base ["self", "node", "found"] "Tree.above" (defScope s_Tree_above) x.f_Tree_above cdv A' outer s H E) rfl rfl rfl rfl
  exact (ss_cons (ss_expr (se_mth (ok_Tree_need T) fn_len_Tree_need (hr.mono (by decide)) T.c_Tree T.me_Tree_need T.b_Tree_need tk se_var (sa_cons se_var sa_nil))) (ss_cons (ss_set nd (se_lst (sa_cons se_var sa_nil))) (ss_cons (ss_while (passes_of rfl) (st_cmp od_isnot (se_fld T.c_Node T.n_Node_origin (se_ix (se_fld T.c_Tree T.n_Tree_nodes se_var) (se_ix se_var (se_un ou_neg se_int)))) se_non) (ss_one (ss_expr (se_meth (k := .lst) PySem.F.plainAttrs_list PySem.F.slot_list_append PySem.F.type_list_append md_append se_var (sa_cons (se_fld T.c_Node T.n_Node_origin (se_ix (se_fld T.c_Tree T.n_Tree_nodes se_var) (se_ix se_var (se_un ou_neg se_int)))) sa_nil))))) (ss_one (ss_ret se_var)))))
theorem sc_Tree_path : FnScope ["self", "one", "other", "mine", "its", "both", "node"] ["self", "one", "other"] (defScope s_Tree_path) := ⟨rfl, rfl, rfl, by decide +kernel, rfl, by decide +kernel, by decide +kernel⟩
theorem ok_Tree_path (T : Txt K w mg x) : FnOk P w K mg base (L2.CX P w) 3 x.f_Tree_path x.fd_Tree_path ["self", "one", "other"] (spD ⟨K, w, x.a⟩ 3 g_Tree_path) := by
  refine fn_ok (m := m_Tree_path) (g := g_Tree_path) rfl rfl rfl T.F_Tree_path sc_Tree_path fun cdv A' outer s H E Pv hr => ?_
  have hu := hr.units
  have nd := sc_Tree_path.nd
  have tk := takes_of (X := cxOf (L2.CX P w) P w K mg base ["self", "one", "other", "mine", "its", "both", "node"] "Tree.path" (defScope s_Tree_path) x.f_Tree_path cdv A' outer s H E) rfl rfl rfl rfl
  exact (ss_cons (ss_set nd (se_mth (ok_Tree_above T) fn_len_Tree_above (hr.mono (by decide)) T.c_Tree T.me_Tree_above T.b_Tree_above tk se_var (sa_cons se_var sa_nil))) (ss_cons (ss_set nd (se_mth (ok_Tree_above T) fn_len_Tree_above (hr.mono (by decide)) T.c_Tree T.me_Tree_above T.b_Tree_above tk se_var (sa_cons se_var sa_nil))) (ss_cons (ss_set nd (se_ix (se_lc (own := [("node", 6)]) (ts := (.one 6)) rfl nd (si_at se_var) (by show blkC ["self", "one", "other", "mine", "its", "both", "node"] (defScope s_Tree_path) _ _ = true; decide +kernel) (fun _ _ _ _ _ => tg_one nd) (fun _ _ _ _ _ _ => spts_one (st_cmp (od_in hu) se_var se_var)) (fun _ _ _ _ _ _ => se_var)) se_int)) (ss_one (ss_ret (se_tup (sa_cons (se_sl se_var so_none (so_some (se_meth (k := .lst) PySem.F.plainAttrs_list PySem.F.slot_list_index PySem.F.type_list_index (md_index hu) se_var (sa_cons se_var sa_nil)))) (sa_cons se_var (sa_cons (se_rev (se_sl se_var so_none (so_some (se_meth (k := .lst) PySem.F.plainAttrs_list PySem.F.slot_list_index PySem.F.type_list_index (md_index hu) se_var (sa_cons se_var sa_nil))))) sa_nil)))))))))
theorem sc_Tree_between : FnScope ["self", "one", "other", "left", "both", "come", "found", "node"] ["self", "one", "other"] (defScope s_Tree_between) := ⟨rfl, rfl, rfl, by decide +kernel, rfl, by decide +kernel, by decide +kernel⟩
theorem ok_Tree_between (T : Txt K w mg x) : FnOk P w K mg base (L2.CX P w) 4 x.f_Tree_between x.fd_Tree_between ["self", "one", "other"] (spD ⟨K, w, x.a⟩ 3 g_Tree_between) := by
  refine fn_ok (m := m_Tree_between) (g := g_Tree_between) rfl rfl rfl T.F_Tree_between sc_Tree_between fun cdv A' outer s H E Pv hr => ?_
  have hu := hr.units
  have nd := sc_Tree_between.nd
  have tk := takes_of (X := cxOf (L2.CX P w) P w K mg base ["self", "one", "other", "left", "both", "come", "found", "node"] "Tree.between" (defScope s_Tree_between) x.f_Tree_between cdv A' outer s H E) rfl rfl rfl rfl
  exact (ss_cons (ss_asg (se_mth (ok_Tree_path T) fn_len_Tree_path (hr.mono (by decide)) T.c_Tree T.me_Tree_path T.b_Tree_path tk se_var (sa_cons se_var (sa_cons se_var sa_nil))) (sg_tup rfl (sgs_cons (sg_name nd) (sgs_cons (sg_name nd) (sgs_cons (sg_name nd) sgs_nil))))) (ss_cons (ss_set nd (se_bin od_add (se_lc (own := [("node", 7)]) (ts := (.one 7)) rfl nd (si_at se_var) (by show blkC ["self", "one", "other", "left", "both", "come", "found", "node"] (defScope s_Tree_between) _ _ = true; decide +kernel) (fun _ _ _ _ _ => tg_one nd) (fun _ _ _ _ _ _ => spts_nil) (fun _ _ _ _ _ _ => (se_fld T.c_Node T.n_Node_other (se_ix (se_fld T.c_Tree T.n_Tree_nodes se_var) se_var)))) (se_lc (own := [("node", 7)]) (ts := (.one 7)) rfl nd (si_at se_var) (by show blkC ["self", "one", "other", "left", "both", "come", "found", "node"] (defScope s_Tree_between) _ _ = true; decide +kernel) (fun _ _ _ _ _ => tg_one nd) (fun _ _ _ _ _ _ => spts_nil) (fun _ _ _ _ _ _ => (se_fld T.c_Node T.n_Node_deed (se_ix (se_fld T.c_Tree T.n_Tree_nodes se_var) se_var)))))) (ss_cons (ss_if (sw_pt (sw_or (st_cmp (od_in hu) se_non se_var) (sw_or1 (st_tru (se_callB (cd_any rfl) T.z_any (sa_cons (se_lc (own := [("node", 7)]) (ts := (.one 7)) rfl nd (si_at se_var) (by show blkC ["self", "one", "other", "left", "both", "come", "found", "node"] (defScope s_Tree_between) _ _ = true; decide +kernel) (fun _ _ _ _ _ => tg_one nd) (fun _ _ _ _ _ _ => spts_nil) (fun _ _ _ _ _ _ => (se_cmp (od_eq hu) (se_ix (se_fld T.c_Node T.n_Node_deed (se_ix (se_fld T.c_Tree T.n_Tree_nodes se_var) se_var)) se_int) se_str))) sa_nil)))))) (ss_one (ss_raise rfl tk PySem.F.excBase_ValueError T.x_Stuck T.mx_Stuck T.kx_Stuck (T.rx_Stuck _ rfl))) ss_nil) (ss_one (ss_ret se_var)))))
theorem sc_Tree_go : FnScope ["self", "node", "deeds"] ["self", "node"] (defScope s_Tree_go) := ⟨rfl, rfl, rfl, by decide +kernel, rfl, by decide +kernel, by decide +kernel⟩
theorem ok_Tree_go (T : Txt K w mg x) : FnOk P w K mg base (L2.CX P w) 6 x.f_Tree_go x.fd_Tree_go ["self", "node"] (spD ⟨K, w, x.a⟩ 2 g_Tree_go) := by
  refine fn_okR (m := m_Tree_go) (g := g_Tree_go) rfl rfl rfl T.F_Tree_go sc_Tree_go fun cdv A' outer s H E Pv hr => ?_
  have hu := hr.units
  have nd := sc_Tree_go.nd
  have tk := takes_of (X := cxOf (L2.CX P w) P w K mg base ["self", "node", "deeds"] "Tree.go" (defScope s_Tree_go) x.f_Tree_go cdv A' outer s H E) rfl rfl rfl rfl
  exact (ss_cons (ss_set nd (se_mth (ok_Tree_between T) fn_len_Tree_between (hr.mono (by decide)) T.c_Tree T.me_Tree_between T.b_Tree_between tk se_var (sa_cons (se_fld T.c_Tree T.n_Tree_here se_var) (sa_cons se_var sa_nil)))) (ss_cons (ss_fld T.c_Tree T.n_Tree_here_board se_var (se_call (ok_all_done T) fn_len_all_done (hr.mono (by decide)) T.m_all_done T.F_all_done.kp T.b_all_done tk (sa_cons (se_fld T.c_Tree T.n_Tree_here_board se_var) (sa_cons se_var sa_nil)))) (ss_one (ss_fld T.c_Tree T.n_Tree_here se_var se_var))))
theorem sc_Tree_parent : FnScope ["self", "node"] ["self", "node"] (defScope s_Tree_parent) := ⟨rfl, rfl, rfl, by decide +kernel, rfl, by decide +kernel, by decide +kernel⟩
theorem ok_Tree_parent (T : Txt K w mg x) : FnOk P w K mg base (L2.CX P w) 2 x.f_Tree_parent x.fd_Tree_parent ["self", "node"] (spD ⟨K, w, x.a⟩ 2 g_Tree_parent) := by
  refine fn_ok (m := m_Tree_parent) (g := g_Tree_parent) rfl rfl rfl T.F_Tree_parent sc_Tree_parent fun cdv A' outer s H E Pv hr => ?_
  have hu := hr.units
  have nd := sc_Tree_parent.nd
  have tk := takes_of (X := cxOf (L2.CX P w) P w K mg base ["self", "node"] "Tree.parent" (defScope s_Tree_parent) x.f_Tree_parent cdv A' outer s H E) rfl rfl rfl rfl
  exact (ss_cons (ss_expr (se_mth (ok_Tree_need T) fn_len_Tree_need (hr.mono (by decide)) T.c_Tree T.me_Tree_need T.b_Tree_need tk se_var (sa_cons se_var sa_nil))) (ss_one (ss_ret (se_fld T.c_Node T.n_Node_origin (se_ix (se_fld T.c_Tree T.n_Tree_nodes se_var) se_var)))))
theorem sc_Tree_children : FnScope ["self", "node"] ["self", "node"] (defScope s_Tree_children) := ⟨rfl, rfl, rfl, by decide +kernel, rfl, by decide +kernel, by decide +kernel⟩
theorem ok_Tree_children (T : Txt K w mg x) : FnOk P w K mg base (L2.CX P w) 2 x.f_Tree_children x.fd_Tree_children ["self", "node"] (spD ⟨K, w, x.a⟩ 2 g_Tree_childrenC) := by
  refine fn_okR (m := m_Tree_childrenC) (g := g_Tree_childrenC) rfl rfl rfl T.F_Tree_children sc_Tree_children fun cdv A' outer s H E Pv hr => ?_
  have hu := hr.units
  have nd := sc_Tree_children.nd
  have tk := takes_of (X := cxOf (L2.CX P w) P w K mg base ["self", "node"] "Tree.children" (defScope s_Tree_children) x.f_Tree_children cdv A' outer s H E) rfl rfl rfl rfl
  exact (ss_cons (ss_expr (se_mth (ok_Tree_need T) fn_len_Tree_need (hr.mono (by decide)) T.c_Tree T.me_Tree_need T.b_Tree_need tk se_var (sa_cons se_var sa_nil))) (ss_one (ss_ret (se_callTy (cd_list rfl) T.z_list (sa_cons (se_fld T.c_Node T.n_Node_comes (se_ix (se_fld T.c_Tree T.n_Tree_nodes se_var) se_var)) sa_nil)))))
theorem sc_Tree_tips : FnScope ["self", "node"] ["self"] (defScope s_Tree_tips) := ⟨rfl, rfl, rfl, by decide +kernel, rfl, by decide +kernel, by decide +kernel⟩
theorem ok_Tree_tips (T : Txt K w mg x) : FnOk P w K mg base (L2.CX P w) 1 x.f_Tree_tips x.fd_Tree_tips ["self"] (spD ⟨K, w, x.a⟩ 1 g_Tree_tips) := by
  refine fn_ok (m := m_Tree_tips) (g := g_Tree_tips) rfl rfl rfl T.F_Tree_tips sc_Tree_tips fun cdv A' outer s H E Pv hr => ?_
  have hu := hr.units
  have nd := sc_Tree_tips.nd
  have tk := takes_of (X := cxOf (L2.CX P w) P w K mg base ["self", "node"] "Tree.tips" (defScope s_Tree_tips) x.f_Tree_tips cdv A' outer s H E) rfl rfl rfl rfl
  exact (ss_one (ss_ret (se_lc (own := [("node", 1)]) (ts := (.one 1)) rfl nd (si_at (se_callB (cd_sorted rfl) T.z_sorted (sa_cons (se_meth0 (k := .dct) PySem.F.plainAttrs_dict PySem.F.slot_dict_keys PySem.F.type_dict_keys md_keys (se_fld T.c_Tree T.n_Tree_nodes se_var)) sa_nil))) (by show blkC ["self", "node"] (defScope s_Tree_tips) _ _ = true; decide +kernel) (fun _ _ _ _ _ => tg_one nd) (fun _ _ _ _ _ _ => spts_one (st_not (st_tru (se_fld T.c_Node T.n_Node_comes (se_ix (se_fld T.c_Tree T.n_Tree_nodes se_var) se_var))))) (fun _ _ _ _ _ _ => se_var))))
theorem sc_Tree_many : FnScope ["self"] ["self"] (defScope s_Tree_many) := ⟨rfl, rfl, rfl, by decide +kernel, rfl, by decide +kernel, by decide +kernel⟩
theorem ok_Tree_many (T : Txt K w mg x) : FnOk P w K mg base (L2.CX P w) 1 x.f_Tree_many x.fd_Tree_many ["self"] (spD ⟨K, w, x.a⟩ 1 g_Tree_many) := by
  refine fn_ok (m := m_Tree_many) (g := g_Tree_many) rfl rfl rfl T.F_Tree_many sc_Tree_many fun cdv A' outer s H E Pv hr => ?_
  have hu := hr.units
  have nd := sc_Tree_many.nd
  have tk := takes_of (X := cxOf (L2.CX P w) P w K mg base ["self"] "Tree.many" (defScope s_Tree_many) x.f_Tree_many cdv A' outer s H E) rfl rfl rfl rfl
  exact (ss_one (ss_ret (se_callB cd_len T.z_len (sa_cons (se_fld T.c_Tree T.n_Tree_nodes se_var) sa_nil))))
theorem sc__law_cell : FnScope ["_law_script", "_law_k"] ["_law_script", "_law_k"] (defScope s__law_cell) := ⟨rfl, rfl, rfl, by decide +kernel, rfl, by decide +kernel, by decide +kernel⟩
theorem ok__law_cell (T : Txt K w mg x) : FnOk P w K mg base (L2.CX P w) 1 x.f__law_cell x.fd__law_cell ["_law_script", "_law_k"] (spD ⟨K, w, x.a⟩ 2 g__law_cell) := by
  refine fn_ok (m := m__law_cell) (g := g__law_cell) rfl rfl rfl T.F__law_cell sc__law_cell fun cdv A' outer s H E Pv hr => ?_
  have hu := hr.units
  have nd := sc__law_cell.nd
  have tk := takes_of (X := cxOf (L2.CX P w) P w K mg base ["_law_script", "_law_k"] "_law_cell" (defScope s__law_cell) x.f__law_cell cdv A' outer s H E) rfl rfl rfl rfl
  exact (ss_cons (ss_if (st_tru se_var) (ss_one (ss_ret (se_ix se_var (se_bin od_mod se_var (se_callB cd_len T.z_len (sa_cons se_var sa_nil)))))) ss_nil) (ss_one (ss_ret se_int)))
theorem sc__law_mix : FnScope ["_law_script", "_law_k", "_law_number"] ["_law_script", "_law_k"] (defScope s__law_mix) := ⟨rfl, rfl, rfl, by decide +kernel, rfl, by decide +kernel, by decide +kernel⟩
theorem ok__law_mix (T : Txt K w mg x) : FnOk P w K mg base (L2.CX P w) 2 x.f__law_mix x.fd__law_mix ["_law_script", "_law_k"] (spD ⟨K, w, x.a⟩ 2 g__law_mix) := by
  refine fn_ok (m := m__law_mix) (g := g__law_mix) rfl rfl rfl T.F__law_mix sc__law_mix fun cdv A' outer s H E Pv hr => ?_
  have hu := hr.units
  have nd := sc__law_mix.nd
  have tk := takes_of (X := cxOf (L2.CX P w) P w K mg base ["_law_script", "_law_k", "_law_number"] "_law_mix" (defScope s__law_mix) x.f__law_mix cdv A' outer s H E) rfl rfl rfl rfl
  exact (ss_cons (ss_set nd (se_bin od_mod (se_bin od_add (se_call (ok__law_cell T) fn_len__law_cell (hr.mono (by decide)) T.m__law_cell T.F__law_cell.kp T.b__law_cell tk (sa_cons se_var (sa_cons se_var sa_nil))) (se_bin od_mul se_int (se_bin od_add se_var se_int))) se_int)) (ss_cons (ss_set nd (se_bin od_mod (se_bin od_pow se_var se_int) se_int)) (ss_one (ss_ret (se_bin od_mod (se_bin od_add (se_bin od_mul (se_bin od_fdiv se_var se_int) se_int) se_var) se_int)))))
theorem sc__law_draw : FnScope ["_law_script", "_law_town", "_law_many"] ["_law_script", "_law_town", "_law_many"] (defScope s__law_draw) := ⟨rfl, rfl, rfl, by decide +kernel, rfl, by decide +kernel, by decide +kernel⟩
theorem ok__law_draw (T : Txt K w mg x) : FnOk P w K mg base (L2.CX P w) 3 x.f__law_draw x.fd__law_draw ["_law_script", "_law_town", "_law_many"] (spD ⟨K, w, x.a⟩ 3 g__law_draw) := by
  refine fn_ok (m := m__law_draw) (g := g__law_draw) rfl rfl rfl T.F__law_draw sc__law_draw fun cdv A' outer s H E Pv hr => ?_
  have hu := hr.units
  have nd := sc__law_draw.nd
  have tk := takes_of (X := cxOf (L2.CX P w) P w K mg base ["_law_script", "_law_town", "_law_many"] "_law_draw" (defScope s__law_draw) x.f__law_draw cdv A' outer s H E) rfl rfl rfl rfl
  exact (ss_cons (ss_expr (se_meth (k := .lst) PySem.F.plainAttrs_list PySem.F.slot_list_append PySem.F.type_list_append md_append se_var (sa_cons se_int sa_nil))) (ss_one (ss_ret (se_bin od_mod (se_bin od_fdiv (se_call (ok__law_mix T) fn_len__law_mix (hr.mono (by decide)) T.m__law_mix T.F__law_mix.kp T.b__law_mix tk (sa_cons se_var (sa_cons (se_callB cd_len T.z_len (sa_cons se_var sa_nil)) sa_nil))) se_int) se_var))))
theorem sc__law_pick : FnScope ["_law_script", "_law_town", "_law_some"] ["_law_script", "_law_town", "_law_some"] (defScope s__law_pick) := ⟨rfl, rfl, rfl, by decide +kernel, rfl, by decide +kernel, by decide +kernel⟩
theorem ok__law_pick (T : Txt K w mg x) : FnOk P w K mg base (L2.CX P w) 4 x.f__law_pick x.fd__law_pick ["_law_script", "_law_town", "_law_some"] (spD ⟨K, w, x.a⟩ 3 g__law_pick) := by
  refine fn_ok (m := m__law_pick) (g := g__law_pick) rfl rfl rfl T.F__law_pick sc__law_pick fun cdv A' outer s H E Pv hr => ?_
  have hu := hr.units
  have nd := sc__law_pick.nd
  have tk := takes_of (X := cxOf (L2.CX P w) P w K mg base ["_law_script", "_law_town", "_law_some"] "_law_pick" (defScope s__law_pick) x.f__law_pick cdv A' outer s H E) rfl rfl rfl rfl
  exact (ss_one (ss_ret (se_ix se_var (se_call (ok__law_draw T) fn_len__law_draw (hr.mono (by decide)) T.m__law_draw T.F__law_draw.kp T.b__law_draw tk (sa_cons se_var (sa_cons se_var (sa_cons (se_callB cd_len T.z_len (sa_cons se_var sa_nil)) sa_nil)))))))
theorem sc__law_refusal : FnScope ["_law_held", "_law_kinds"] ["_law_held"] (defScope s__law_refusal) := ⟨rfl, rfl, rfl, by decide +kernel, rfl, by decide +kernel, by decide +kernel⟩
theorem ok__law_refusal (T : Txt K w mg x) : FnOk P w K mg base (L2.CX P w) 1 x.f__law_refusal x.fd__law_refusal ["_law_held"] (spD ⟨K, w, x.a⟩ 1 g__law_refusal) := by
  refine fn_ok (m := m__law_refusal) (g := g__law_refusal) rfl rfl rfl T.F__law_refusal sc__law_refusal fun cdv A' outer s H E Pv hr => ?_
  have hu := hr.units
  have nd := sc__law_refusal.nd
  have tk := takes_of (X := cxOf (L2.CX P w) P w K mg base ["_law_held", "_law_kinds"] "_law_refusal" (defScope s__law_refusal) x.f__law_refusal cdv A' outer s H E) rfl rfl rfl rfl
  exact (ss_cons (ss_if (st_cmp od_is se_var se_non) (ss_one (ss_ret (se_tup (sa_cons se_str sa_nil)))) ss_nil) (ss_cons (ss_set nd (se_lst (sa_cons (se_isi T.z_isinstance (pe_glob (v := .ref _) rfl T.im_BadDeed rfl) (.own _) T.i1_BadDeed T.i2_BadDeed se_var) (sa_cons (se_isi T.z_isinstance (pe_glob (v := .ref _) rfl T.im_BadBoard rfl) (.own _) T.i1_BadBoard T.i2_BadBoard se_var) (sa_cons (se_isi T.z_isinstance (pe_glob (v := .ref _) rfl T.im_BadNumber rfl) (.own _) T.i1_BadNumber T.i2_BadNumber se_var) sa_nil))))) (ss_cons (ss_set nd (se_bin od_add se_var (se_lst (sa_cons (se_isi T.z_isinstance (pe_glob (v := .ref _) rfl T.im_Stuck rfl) (.own _) T.i1_Stuck T.i2_Stuck se_var) (sa_cons (se_isi T.z_isinstance (pe_glob (v := .ref _) rfl T.im_Open rfl) (.own _) T.i1_Open T.i2_Open se_var) (sa_cons (se_isi T.z_isinstance (pe_glob (v := .ref _) rfl T.im_Clash rfl) (.own _) T.i1_Clash T.i2_Clash se_var) sa_nil)))))) (ss_cons (ss_if (sw_pt (sw_or (st_cmp (od_ne hu) (se_meth (k := .lst) PySem.F.plainAttrs_list PySem.F.slot_list_count PySem.F.type_list_count (md_count hu) se_var (sa_cons se_bl sa_nil)) se_int) (sw_or1 (st_not (st_tru (se_isi T.z_isinstance (pe_bltn (v := .ty _) rfl T.im_ValueError (by decide +kernel) rfl) (.ty _) T.i1_ValueError T.i2_ValueError se_var)))))) (ss_one (ss_ret (se_tup (sa_cons se_str sa_nil)))) ss_nil) (ss_one (ss_ret (se_tup (sa_cons se_str (sa_cons (se_ix (se_lst (sa_cons se_str (sa_cons se_str (sa_cons se_str (sa_cons se_str (sa_cons se_str (sa_cons se_str sa_nil))))))) (se_meth (k := .lst) PySem.F.plainAttrs_list PySem.F.slot_list_index PySem.F.type_list_index (md_index hu) se_var (sa_cons se_bl sa_nil))) sa_nil)))))))))
theorem sc__law_signs : FnScope ["_law_script", "_law_town", "_law_many", "_law_signs_here", "_law_found", "_law_k"] ["_law_script", "_law_town", "_law_many"] (defScope s__law_signs) := ⟨rfl, rfl, rfl, by decide +kernel, rfl, by decide +kernel, by decide +kernel⟩
theorem ok__law_signs (T : Txt K w mg x) : FnOk P w K mg base (L2.CX P w) 4 x.f__law_signs x.fd__law_signs ["_law_script", "_law_town", "_law_many"] (spD ⟨K, w, x.a⟩ 3 g__law_signs) := by
  refine fn_ok (m := m__law_signs) (g := g__law_signs) rfl rfl rfl T.F__law_signs sc__law_signs fun cdv A' outer s H E Pv hr => ?_
  have hu := hr.units
  have nd := sc__law_signs.nd
  have tk := takes_of (X := cxOf (L2.CX P w) P w K mg base ["_law_script", "_law_town", "_law_many", "_law_signs_here", "_law_found", "_law_k"] "_law_signs" (defScope s__law_signs) x.f__law_signs cdv A' outer s H E) rfl rfl rfl rfl
  exact (ss_cons (ss_set nd se_str) (ss_cons (ss_set nd se_str) (ss_cons (ss_for (passes_of rfl) rfl (si_range1 se_var T.z_range) (sg_name nd) (ss_one (ss_set nd (se_bin od_add se_var (se_ix se_var (se_call (ok__law_draw T) fn_len__law_draw (hr.mono (by decide)) T.m__law_draw T.F__law_draw.kp T.b__law_draw tk (sa_cons se_var (sa_cons se_var (sa_cons (se_callB cd_len T.z_len (sa_cons se_var sa_nil)) sa_nil))))))))) (ss_one (ss_ret se_var)))))
theorem sc__law_value : FnScope ["_law_script", "_law_town", "_law_way", "_law_k"] ["_law_script", "_law_town"] (defScope s__law_value) := ⟨rfl, rfl, rfl, by decide +kernel, rfl, by decide +kernel, by decide +kernel⟩
theorem ok__law_value (T : Txt K w mg x) : FnOk P w K mg base (L2.CX P w) 5 x.f__law_value x.fd__law_value ["_law_script", "_law_town"] (spD ⟨K, w, x.a⟩ 2 g__law_value) := by
  refine fn_ok (m := m__law_value) (g := g__law_value) rfl rfl rfl T.F__law_value sc__law_value fun cdv A' outer s H E Pv hr => ?_
  have hu := hr.units
  have nd := sc__law_value.nd
  have tk := takes_of (X := cxOf (L2.CX P w) P w K mg base ["_law_script", "_law_town", "_law_way", "_law_k"] "_law_value" (defScope s__law_value) x.f__law_value cdv A' outer s H E) rfl rfl rfl rfl
  exact (ss_cons (ss_set nd (se_call (ok__law_draw T) fn_len__law_draw (hr.mono (by decide)) T.m__law_draw T.F__law_draw.kp T.b__law_draw tk (sa_cons se_var (sa_cons se_var (sa_cons se_int sa_nil))))) (ss_cons (ss_if (st_cmp (od_eq hu) se_var se_int) (ss_one (ss_ret (se_tup (sa_cons se_str (sa_cons (se_call (ok__law_signs T) fn_len__law_signs (hr.mono (by decide)) T.m__law_signs T.F__law_signs.kp T.b__law_signs tk (sa_cons se_var (sa_cons se_var (sa_cons (se_call (ok__law_draw T) fn_len__law_draw (hr.mono (by decide)) T.m__law_draw T.F__law_draw.kp T.b__law_draw tk (sa_cons se_var (sa_cons se_var (sa_cons se_int sa_nil)))) sa_nil)))) sa_nil))))) ss_nil) (ss_cons (ss_if (st_cmp (od_eq hu) se_var se_int) (ss_one (ss_ret (se_tup (sa_cons se_str (sa_cons (se_callTy cd_tuple T.z_tuple (sa_cons (se_lc (own := [("_law_k", 3)]) (ts := (.one 3)) rfl nd (si_range1 (se_call (ok__law_draw T) fn_len__law_draw (hr.mono (by decide)) T.m__law_draw T.F__law_draw.kp T.b__law_draw tk (sa_cons se_var (sa_cons se_var (sa_cons se_int sa_nil)))) T.z_range) (by show blkC ["_law_script", "_law_town", "_law_way", "_law_k"] (defScope s__law_value) _ _ = true; decide +kernel) (fun _ _ _ _ _ => tg_one nd) (fun _ _ _ _ _ _ => spts_nil) (fun _ _ _ _ _ _ => (se_call (ok__law_pick T) fn_len__law_pick (hr.mono (by decide)) T.m__law_pick T.F__law_pick.kp T.b__law_pick takes0 (sa_cons se_var (sa_cons se_var (sa_cons (se_lst (sa_cons se_str (sa_cons se_str (sa_cons se_str sa_nil)))) sa_nil)))))) sa_nil)) sa_nil))))) ss_nil) (ss_one (ss_ret (se_tup (sa_cons se_str (sa_cons (se_call (ok__law_pick T) fn_len__law_pick (hr.mono (by decide)) T.m__law_pick T.F__law_pick.kp T.b__law_pick tk (sa_cons se_var (sa_cons se_var (sa_cons (se_lst (sa_cons se_int (sa_cons se_int (sa_cons (se_un ou_neg se_int) (sa_cons se_int (sa_cons (se_call (ok__law_draw T) fn_len__law_draw (hr.mono (by decide)) T.m__law_draw T.F__law_draw.kp T.b__law_draw tk (sa_cons se_var (sa_cons se_var (sa_cons se_int sa_nil)))) sa_nil)))))) sa_nil)))) sa_nil))))))))
theorem sc__law_board : FnScope ["_law_script", "_law_town", "_law_found", "_law_name"] ["_law_script", "_law_town"] (defScope s__law_board) := ⟨rfl, rfl, rfl, by decide +kernel, rfl, by decide +kernel, by decide +kernel⟩
theorem ok__law_board (T : Txt K w mg x) : FnOk P w K mg base (L2.CX P w) 6 x.f__law_board x.fd__law_board ["_law_script", "_law_town"] (spD ⟨K, w, x.a⟩ 2 g__law_board) := by
  refine fn_okF (m := m__law_board) (g := g__law_board) rfl rfl rfl T.F__law_board sc__law_board fun cdv A' outer s H E Pv hr => ?_
  have hu := hr.units
  have nd := sc__law_board.nd
  have tk := takes_of (X := cxOf (L2.CX P w) P w K mg base ["_law_script", "_law_town", "_law_found", "_law_name"] "_law_board" (defScope s__law_board) x.f__law_board cdv A' outer s H E) rfl rfl rfl rfl
  exact (ss_cons (ss_set nd se_dict0) (ss_cons (ss_for (passes_of rfl) rfl (si_at (se_lst (sa_cons se_str (sa_cons se_str (sa_cons se_str (sa_cons se_str sa_nil)))))) (sg_name nd) (ss_one (ss_if (st_cmp od_gt (se_call (ok__law_draw T) fn_len__law_draw (hr.mono (by decide)) T.m__law_draw T.F__law_draw.kp T.b__law_draw tk (sa_cons se_var (sa_cons se_var (sa_cons se_int sa_nil)))) se_int) (ss_one (ss_put hu se_var se_var (se_call (ok__law_value T) fn_len__law_value (hr.mono (by decide)) T.m__law_value T.F__law_value.kp T.b__law_value tk (sa_cons se_var (sa_cons se_var sa_nil))))) ss_nil))) (ss_one (ss_ret se_var))))
theorem sc__law_deed : FnScope ["_law_script", "_law_town", "_law_board_here", "_law_name", "_law_kind", "_law_value_here", "_law_way", "_law_fresh", "_law_some", "_law_many", "_law_at"] ["_law_script", "_law_town", "_law_board_here"] (defScope s__law_deed) := ⟨rfl, rfl, rfl, by decide +kernel, rfl, by decide +kernel, by decide +kernel⟩
theorem ok__law_deed (T : Txt K w mg x) : FnOk P w K mg base (L2.CX P w) 6 x.f__law_deed x.fd__law_deed ["_law_script", "_law_town", "_law_board_here"] (spD ⟨K, w, x.a⟩ 3 g__law_deed) := by
  refine fn_ok (m := m__law_deed) (g := g__law_deed) rfl rfl rfl T.F__law_deed sc__law_deed fun cdv A' outer s H E Pv hr => ?_
  have hu := hr.units
  have nd := sc__law_deed.nd
  have tk := takes_of (X := cxOf (L2.CX P w) P w K mg base ["_law_script", "_law_town", "_law_board_here", "_law_name", "_law_kind", "_law_value_here", "_law_way", "_law_fresh", "_law_some", "_law_many", "_law_at"] "_law_deed" (defScope s__law_deed) x.f__law_deed cdv A' outer s H E) rfl rfl rfl rfl
  exact (ss_cons (ss_set nd (se_call (ok__law_pick T) fn_len__law_pick (hr.mono (by decide)) T.m__law_pick T.F__law_pick.kp T.b__law_pick tk (sa_cons se_var (sa_cons se_var (sa_cons (se_bin od_add (se_callB (cd_sorted rfl) T.z_sorted (sa_cons (se_meth0 (k := .dct) PySem.F.plainAttrs_dict PySem.F.slot_dict_keys PySem.F.type_dict_keys md_keys se_var) sa_nil)) (se_lst (sa_cons se_str (sa_cons se_str sa_nil)))) sa_nil))))) (ss_cons (ss_asg (se_meth (k := .dct) PySem.F.plainAttrs_dict PySem.F.slot_dict_get PySem.F.type_dict_get (md_get2 hu) se_var (sa_cons se_var (sa_cons (se_tup (sa_cons se_str (sa_cons se_str sa_nil))) sa_nil))) (sg_tup rfl (sgs_cons (sg_name nd) (sgs_cons (sg_name nd) sgs_nil)))) (ss_cons (ss_set nd (se_call (ok__law_draw T) fn_len__law_draw (hr.mono (by decide)) T.m__law_draw T.F__law_draw.kp T.b__law_draw tk (sa_cons se_var (sa_cons se_var (sa_cons se_int sa_nil))))) (ss_cons (ss_if (sw_pt (sw_or (st_cmp (od_eq hu) se_var se_str) (sw_or1 (st_cmp (od_eq hu) se_var se_int)))) (ss_cons (ss_set nd (se_call (ok__law_pick T) fn_len__law_pick (hr.mono (by decide)) T.m__law_pick T.F__law_pick.kp T.b__law_pick tk (sa_cons se_var (sa_cons se_var (sa_cons (se_lst (sa_cons se_str (sa_cons se_str (sa_cons se_str (sa_cons se_var sa_nil))))) sa_nil))))) (ss_cons (ss_set nd (se_lst (sa_cons (se_tup (sa_cons se_str (sa_cons se_var (sa_cons (se_call (ok__law_value T) fn_len__law_value (hr.mono (by decide)) T.m__law_value T.F__law_value.kp T.b__law_value tk (sa_cons se_var (sa_cons se_var sa_nil))) sa_nil)))) (sa_cons (se_tup (sa_cons se_str (sa_cons se_var (sa_cons (se_call (ok__law_value T) fn_len__law_value (hr.mono (by decide)) T.m__law_value T.F__law_value.kp T.b__law_value tk (sa_cons se_var (sa_cons se_var sa_nil))) sa_nil)))) sa_nil)))) (ss_one (ss_ret (se_call (ok__law_pick T) fn_len__law_pick (hr.mono (by decide)) T.m__law_pick T.F__law_pick.kp T.b__law_pick tk (sa_cons se_var (sa_cons se_var (sa_cons (se_bin od_add se_var (se_lst (sa_cons (se_tup (sa_cons se_str (sa_cons se_var (sa_cons se_var sa_nil)))) (sa_cons (se_tup (sa_cons se_str (sa_cons se_var sa_nil))) (sa_cons (se_tup (sa_cons se_str (sa_cons se_var sa_nil))) sa_nil))))) sa_nil)))))))) ss_nil) (ss_cons (ss_if (st_cmp (od_eq hu) se_var se_str) (ss_cons (ss_set nd (se_lst (sa_cons (se_tup (sa_cons se_str (sa_cons se_var (sa_cons (se_call (ok__law_draw T) fn_len__law_draw (hr.mono (by decide)) T.m__law_draw T.F__law_draw.kp T.b__law_draw tk (sa_cons se_var (sa_cons se_var (sa_cons se_int sa_nil)))) sa_nil)))) (sa_cons (se_tup (sa_cons se_str (sa_cons se_var (sa_cons (se_bin od_sub (se_call (ok__law_draw T) fn_len__law_draw (hr.mono (by decide)) T.m__law_draw T.F__law_draw.kp T.b__law_draw tk (sa_cons se_var (sa_cons se_var (sa_cons se_int sa_nil)))) se_int) sa_nil)))) sa_nil)))) (ss_one (ss_ret (se_call (ok__law_pick T) fn_len__law_pick (hr.mono (by decide)) T.m__law_pick T.F__law_pick.kp T.b__law_pick tk (sa_cons se_var (sa_cons se_var (sa_cons (se_bin od_add se_var (se_lst (sa_cons (se_tup (sa_cons se_str (sa_cons se_var (sa_cons se_int sa_nil)))) sa_nil))) sa_nil))))))) ss_nil) (ss_cons (ss_set nd (se_callB cd_len T.z_len (sa_cons se_var sa_nil))) (ss_cons (ss_set nd (se_call (ok__law_draw T) fn_len__law_draw (hr.mono (by decide)) T.m__law_draw T.F__law_draw.kp T.b__law_draw tk (sa_cons se_var (sa_cons se_var (sa_cons (se_bin od_add (se_bin od_add se_var se_int) (se_callTy cd_int T.z_int (sa_cons (se_cmp (od_eq hu) se_var se_int) sa_nil))) sa_nil))))) (ss_cons (ss_if (st_cmp (od_eq hu) se_var se_str) (ss_cons (ss_if (st_cmp od_lt se_var se_int) (ss_one (ss_ret (se_tup (sa_cons se_str (sa_cons se_var (sa_cons se_var (sa_cons (se_call (ok__law_signs T) fn_len__law_signs (hr.mono (by decide)) T.m__law_signs T.F__law_signs.kp T.b__law_signs tk (sa_cons se_var (sa_cons se_var (sa_cons (se_bin od_add se_int (se_call (ok__law_draw T) fn_len__law_draw (hr.mono (by decide)) T.m__law_draw T.F__law_draw.kp T.b__law_draw tk (sa_cons se_var (sa_cons se_var (sa_cons se_int sa_nil))))) sa_nil)))) sa_nil))))))) ss_nil) (ss_one (ss_ret (se_tup (sa_cons se_str (sa_cons se_var (sa_cons se_var (sa_cons (se_bin od_add se_int (se_call (ok__law_draw T) fn_len__law_draw (hr.mono (by decide)) T.m__law_draw T.F__law_draw.kp T.b__law_draw tk (sa_cons se_var (sa_cons se_var (sa_cons (se_callB (cd_max rfl) T.z_max (sa_cons se_int (sa_cons (se_bin od_sub se_var se_var) sa_nil))) sa_nil))))) sa_nil)))))))) ss_nil) (ss_cons (ss_if (st_cmp od_lt se_var se_int) (ss_one (ss_ret (se_tup (sa_cons se_str (sa_cons se_var (sa_cons se_var (sa_cons (se_call (ok__law_pick T) fn_len__law_pick (hr.mono (by decide)) T.m__law_pick T.F__law_pick.kp T.b__law_pick tk (sa_cons se_var (sa_cons se_var (sa_cons (se_lst (sa_cons se_str (sa_cons se_str (sa_cons se_str sa_nil)))) sa_nil)))) sa_nil))))))) ss_nil) (ss_cons (ss_if (st_cmp od_lt se_var se_int) (ss_one (ss_ret (se_tup (sa_cons se_str (sa_cons se_var (sa_cons se_var sa_nil)))))) ss_nil) (ss_one (ss_ret (se_tup (sa_cons se_str (sa_cons se_var (sa_cons se_var (sa_cons (se_call (ok__law_draw T) fn_len__law_draw (hr.mono (by decide)) T.m__law_draw T.F__law_draw.kp T.b__law_draw tk (sa_cons se_var (sa_cons se_var (sa_cons (se_bin od_add se_var se_int) sa_nil)))) sa_nil)))))))))))))))))
theorem sc__law_edited : FnScope ["_law_value_here", "_law_deed_here", "_law_new", "_law_most", "_law_at", "_law_less", "_law_left"] ["_law_value_here", "_law_deed_here", "_law_new", "_law_most"] (defScope s__law_edited) := ⟨rfl, rfl, rfl, by decide +kernel, rfl, by decide +kernel, by decide +kernel⟩
theorem ok__law_edited (T : Txt K w mg x) : FnOk P w K mg base (L2.CX P w) 1 x.f__law_edited x.fd__law_edited ["_law_value_here", "_law_deed_here", "_law_new", "_law_most"] (spD ⟨K, w, x.a⟩ 4 g__law_edited) := by
  refine fn_ok (m := m__law_edited) (g := g__law_edited) rfl rfl rfl T.F__law_edited sc__law_edited fun cdv A' outer s H E Pv hr => ?_
  have hu := hr.units
  have nd := sc__law_edited.nd
  have tk := takes_of (X := cxOf (L2.CX P w) P w K mg base ["_law_value_here", "_law_deed_here", "_law_new", "_law_most", "_law_at", "_law_less", "_law_left"] "_law_edited" (defScope s__law_edited) x.f__law_edited cdv A' outer s H E) rfl rfl rfl rfl
  exact (ss_cons (ss_set nd (se_ix se_var se_int)) (ss_cons (ss_set nd (se_meth (k := .dct) PySem.F.plainAttrs_dict PySem.F.slot_dict_get PySem.F.type_dict_get (md_get2 hu) (se_dict (spp_cons (fun _ => se_str) (fun _ => (se_ix se_var (se_un ou_neg se_int))) (spp_cons (fun _ => se_str) (fun _ => se_int) (spp_cons (fun _ => se_str) (fun _ => se_int) spp_nil)))) (sa_cons (se_ix se_var se_int) (sa_cons se_int sa_nil)))) (ss_cons (ss_if (sw_pt (sw_or (st_cmp od_gt (se_bin od_add se_var se_var) (se_callB cd_len T.z_len (sa_cons se_var sa_nil))) (sw_or1 (st_cmp od_gt (se_bin od_add (se_callB cd_len T.z_len (sa_cons se_var sa_nil)) (se_callB cd_len T.z_len (sa_cons se_var sa_nil))) se_var)))) (ss_one (ss_ret se_non)) ss_nil) (ss_cons (ss_if (st_cmp (od_eq hu) (se_ix se_var se_int) se_str) (ss_cons (ss_set nd (se_bin od_add (se_sl se_var so_none (so_some se_var)) (se_sl se_var (so_some (se_bin od_add se_var se_int)) so_none))) (ss_one (ss_ret (se_if (st_cmp od_lt (se_ix se_var se_int) (se_callB cd_len T.z_len (sa_cons se_var sa_nil))) (se_bin od_add (se_bin od_add (se_sl se_var so_none (so_some (se_ix se_var se_int))) (se_sl se_var (so_some se_var) (so_some (se_bin od_add se_var se_int)))) (se_sl se_var (so_some (se_ix se_var se_int)) so_none)) se_non)))) ss_nil) (ss_one (ss_ret (se_bin od_add (se_bin od_add (se_sl se_var so_none (so_some se_var)) se_var) (se_sl se_var (so_some (se_bin od_add se_var se_var)) so_none))))))))
theorem sc__law_done : FnScope ["_law_board_here", "_law_deed_here", "_law_word", "_law_name", "_law_found", "_law_kind", "_law_value_here", "_law_later"] ["_law_board_here", "_law_deed_here"] (defScope s__law_done) := ⟨rfl, rfl, rfl, by decide +kernel, rfl, by decide +kernel, by decide +kernel⟩
theorem ok__law_done (T : Txt K w mg x) : FnOk P w K mg base (L2.CX P w) 2 x.f__law_done x.fd__law_done ["_law_board_here", "_law_deed_here"] (spD ⟨K, w, x.a⟩ 2 g__law_done) := by
  refine fn_ok (m := m__law_done) (g := g__law_done) rfl rfl rfl T.F__law_done sc__law_done fun cdv A' outer s H E Pv hr => ?_
  have hu := hr.units
  have nd := sc__law_done.nd
  have tk := takes_of (X := cxOf (L2.CX P w) P w K mg base ["_law_board_here", "_law_deed_here", "_law_word", "_law_name", "_law_found", "_law_kind", "_law_value_here", "_law_later"] "_law_done" (defScope s__law_done) x.f__law_done cdv A' outer s H E) rfl rfl rfl rfl
  exact (ss_cons (ss_asg (se_sl se_var so_none (so_some se_int)) (sg_tup rfl (sgs_cons (sg_name nd) (sgs_cons (sg_name nd) sgs_nil)))) (ss_cons (ss_if (st_cmp (od_eq hu) se_var se_str) (ss_one (ss_ret se_var)) ss_nil) (ss_cons (ss_set nd (se_meth0 (k := .dct) PySem.F.plainAttrs_dict PySem.F.slot_dict_copy PySem.F.type_dict_copy md_copy se_var)) (ss_cons (ss_if (st_cmp (od_eq hu) se_var se_str) (ss_cons (ss_put hu se_var se_var (se_ix se_var se_int)) (ss_one (ss_ret (se_if (sw_pt (sw_and (st_cmp (od_notin hu) se_var se_var) (sw_and1 (st_cmp od_le (se_callB cd_len T.z_len (sa_cons se_var sa_nil)) se_int)))) se_var se_non)))) ss_nil) (ss_cons (ss_if (st_cmp (od_notin hu) se_var se_var) (ss_one (ss_ret se_non)) ss_nil) (ss_cons (ss_asg (se_meth (k := .dct) PySem.F.plainAttrs_dict PySem.F.slot_dict_pop PySem.F.type_dict_pop md_dpop se_var (sa_cons se_var sa_nil)) (sg_tup rfl (sgs_cons (sg_name nd) (sgs_cons (sg_name nd) sgs_nil)))) (ss_cons (ss_if (st_cmp (od_eq hu) se_var se_str) (ss_one (ss_ret se_var)) ss_nil) (ss_cons (ss_if (st_cmp (od_eq hu) se_var se_str) (ss_cons (ss_put hu se_var (se_ix se_var se_int) (se_tup (sa_cons se_var (sa_cons se_var sa_nil)))) (ss_one (ss_ret (se_if (st_cmp (od_notin hu) (se_ix se_var se_int) se_var) se_var se_non)))) ss_nil) (ss_cons (ss_set nd se_non) (ss_cons (ss_if (sw_pt (sw_and (st_cmp (od_eq hu) se_var se_str) (sw_and1 (st_cmp (od_in hu) se_var (se_tup (sa_cons se_str (sa_cons se_str sa_nil))))))) (ss_cons (ss_set nd (se_if (st_cmp (od_eq hu) se_var se_str) (se_ix se_var se_int) (se_bin od_add se_var (se_ix se_var se_int)))) (ss_one (ss_set nd (se_if (st_cmp od_le (se_callB cd_abs T.z_abs (sa_cons se_var sa_nil)) se_int) se_var se_non)))) ss_nil) (ss_cons (ss_if (sw_pt (sw_and (st_cmp (od_eq hu) se_var se_str) (sw_and1 (st_cmp (od_in hu) se_var (se_tup (sa_cons se_str (sa_cons se_str sa_nil))))))) (ss_one (ss_set nd (se_call (ok__law_edited T) fn_len__law_edited (hr.mono (by decide)) T.m__law_edited T.F__law_edited.kp T.b__law_edited tk (sa_cons se_var (sa_cons se_var (sa_cons (se_if (st_cmp (od_eq hu) se_var se_str) (se_ix se_var se_int) se_str) (sa_cons se_int sa_nil))))))) ss_nil) (ss_cons (ss_if (sw_pt (sw_and (st_cmp (od_eq hu) se_var se_str) (sw_and1 (st_cmp (od_in hu) se_var (se_tup (sa_cons se_str (sa_cons se_str (sa_cons se_str sa_nil)))))))) (ss_one (ss_set nd (se_call (ok__law_edited T) fn_len__law_edited (hr.mono (by decide)) T.m__law_edited T.F__law_edited.kp T.b__law_edited tk (sa_cons se_var (sa_cons se_var (sa_cons (se_if (st_cmp (od_eq hu) se_var se_str) (se_tup (sa_cons (se_ix se_var se_int) sa_nil)) (se_tup sa_nil)) (sa_cons se_int sa_nil))))))) ss_nil) (ss_cons (ss_if (st_cmp od_is se_var se_non) (ss_one (ss_ret se_non)) ss_nil) (ss_cons (ss_put hu se_var se_var (se_tup (sa_cons se_var (sa_cons se_var sa_nil)))) (ss_one (ss_ret se_var))))))))))))))))
theorem sc__law_told : FnScope ["_law_tree", "_law_word", "_law_thing", "_law_held", "_law_found", "e"] ["_law_tree", "_law_word", "_law_thing"] (defScope s__law_told) := ⟨rfl, rfl, rfl, by decide +kernel, rfl, by decide +kernel, by decide +kernel⟩
theorem ok__law_told (T : Txt K w mg x) : FnOk P w K mg base (L2.CX P w) 7 x.f__law_told x.fd__law_told ["_law_tree", "_law_word", "_law_thing"] (spD ⟨K, w, x.a⟩ 3 g__law_told) := by
  refine fn_okR (m := m__law_told) (g := g__law_told) rfl rfl rfl T.F__law_told sc__law_told fun cdv A' outer s H E Pv hr => ?_
  have hu := hr.units
  have nd := sc__law_told.nd
  have tk := takes_of (X := cxOf (L2.CX P w) P w K mg base ["_law_tree", "_law_word", "_law_thing", "_law_held", "_law_found", "e"] "_law_told" (defScope s__law_told) x.f__law_told cdv A' outer s H E) rfl rfl rfl rfl
  exact (ss_cons (ss_set nd se_non) (ss_cons (ss_set nd se_non) (ss_cons (ss_tryH T.e_UndoError rfl rfl rfl nd ⟨rfl, by decide, .inl T.en_UndoError⟩ tk (fun _ _ _ tk' _ => (ss_one (ss_if (st_cmp (od_eq hu) se_var se_str) (ss_one (ss_set nd (se_mth (ok_Tree_do T) fn_len_Tree_do (hr.mono (by decide)) T.c_Tree T.me_Tree_do T.b_Tree_do tk' se_var (sa_cons se_var sa_nil)))) (ss_one (ss_if (st_cmp (od_eq hu) se_var se_str) (ss_one (ss_set nd (se_mth (ok_Tree_go T) fn_len_Tree_go (hr.mono (by decide)) T.c_Tree T.me_Tree_go T.b_Tree_go tk' se_var (sa_cons se_var sa_nil)))) (ss_one (ss_if (st_cmp (od_eq hu) se_var se_str) (ss_one (ss_set nd (se_mth (ok_Tree_between T) fn_len_Tree_between (hr.mono (by decide)) T.c_Tree T.me_Tree_between T.b_Tree_between tk' se_var (sa_cons se_int (sa_cons se_var sa_nil))))) (ss_one (ss_set nd (se_if (st_cmp (od_eq hu) se_var se_str) (se_mth (ok_Tree_parent T) fn_len_Tree_parent (hr.mono (by decide)) T.c_Tree T.me_Tree_parent T.b_Tree_parent tk' se_var (sa_cons se_var sa_nil)) (se_mth (ok_Tree_children T) fn_len_Tree_childrenC (hr.mono (by decide)) T.c_Tree T.me_Tree_children T.b_Tree_children tk' se_var (sa_cons se_var sa_nil))))))))))))) (ss_one (ss_ret (se_if (st_cmp od_is se_var se_non) se_var (se_call (ok__law_refusal T) fn_len__law_refusal (hr.mono (by decide)) T.m__law_refusal T.F__law_refusal.kp T.b__law_refusal tk (sa_cons se_var sa_nil))))))))
theorem sc__law_is_said : FnScope ["_law_state", "_law_one", "_law_other", "_law_way", "_law_node", "_law_some", "_law_apart"] ["_law_state", "_law_one", "_law_other"] (defScope s__law_is_said) := ⟨rfl, rfl, rfl, by decide +kernel, rfl, by decide +kernel, by decide +kernel⟩
theorem ok__law_is_said (T : Txt K w mg x) : FnOk P w K mg base (L2.CX P w) 1 x.f__law_is_said x.fd__law_is_said ["_law_state", "_law_one", "_law_other"] (spD ⟨K, w, x.a⟩ 3 g__law_is_said) := by
  refine fn_ok (m := m__law_is_said) (g := g__law_is_said) rfl rfl rfl T.F__law_is_said sc__law_is_said fun cdv A' outer s H E Pv hr => ?_
  have hu := hr.units
  have nd := sc__law_is_said.nd
  have tk := takes_of (X := cxOf (L2.CX P w) P w K mg base ["_law_state", "_law_one", "_law_other", "_law_way", "_law_node", "_law_some", "_law_apart"] "_law_is_said" (defScope s__law_is_said) x.f__law_is_said cdv A' outer s H E) rfl rfl rfl rfl
  exact (ss_cons (ss_set nd (se_lst sa_nil)) (ss_cons (ss_for (passes_of rfl) rfl (si_at (se_tup (sa_cons se_var (sa_cons se_var sa_nil)))) (sg_name nd) (ss_cons (ss_set nd (se_lst sa_nil)) (ss_cons (ss_while (passes_of rfl) (st_cmp od_isnot se_var se_non) (ss_cons (ss_expr (se_meth (k := .lst) PySem.F.plainAttrs_list PySem.F.slot_list_append PySem.F.type_list_append md_append se_var (sa_cons se_var sa_nil))) (ss_one (ss_set nd (se_ix (se_ix se_var se_str) se_var))))) (ss_one (ss_expr (se_meth (k := .lst) PySem.F.plainAttrs_list PySem.F.slot_list_append PySem.F.type_list_append md_append se_var (sa_cons se_var sa_nil))))))) (ss_cons (ss_setLc (own := [("_law_node", 4)]) (ts := (.one 4)) rfl nd (si_at (se_bin od_add (se_ix se_var se_int) (se_ix se_var se_int))) (by show blkC ["_law_state", "_law_one", "_law_other", "_law_way", "_law_node", "_law_some", "_law_apart"] (defScope s__law_is_said) _ _ = true; decide +kernel) (fun _ _ _ _ _ => tg_one nd) (fun _ _ _ _ _ _ => spts_one (st_cmp (od_ne hu) (se_cmp (od_in hu) se_var (se_ix se_var se_int)) (se_cmp (od_in hu) se_var (se_ix se_var se_int)))) (fun _ _ _ _ _ _ => se_var) (sw_true rfl rfl rfl rfl)) (ss_one (ss_ret (se_callB (cd_any rfl) T.z_any (sa_cons (se_lc (own := [("_law_node", 4)]) (ts := (.one 4)) rfl nd (si_at se_var) (by show blkC ["_law_state", "_law_one", "_law_other", "_law_way", "_law_node", "_law_some", "_law_apart"] (defScope s__law_is_said) _ _ = true; decide +kernel) (fun _ _ _ _ _ => tg_one nd) (fun _ _ _ _ _ _ => spts_nil) (fun _ _ _ _ _ _ => (se_cmp (od_eq hu) (se_ix (se_ix (se_ix se_var se_str) se_var) se_int) se_str))) sa_nil)))))))
theorem sc__law_turn : FnScope ["_law_script", "_law_town", "_law_tree", "_law_state", "_law_here", "_law_deed_here", "_law_later", "_law_found", "_law_node"] ["_law_script", "_law_town", "_law_tree", "_law_state"] (defScope s__law_turn) := ⟨rfl, rfl, rfl, by decide +kernel, rfl, by decide +kernel, by decide +kernel⟩
theorem ok__law_turn (T : Txt K w mg x) : FnOk P w K mg base (L2.CX P w) 8 x.f__law_turn x.fd__law_turn ["_law_script", "_law_town", "_law_tree", "_law_state"] (spD ⟨K, w, x.a⟩ 4 g__law_turn) := by
  refine fn_okR (m := m__law_turn) (g := g__law_turn) rfl rfl rfl T.F__law_turn sc__law_turn fun cdv A' outer s H E Pv hr => ?_
  have hu := hr.units
  have nd := sc__law_turn.nd
  have tk := takes_of (X := cxOf (L2.CX P w) P w K mg base ["_law_script", "_law_town", "_law_tree", "_law_state", "_law_here", "_law_deed_here", "_law_later", "_law_found", "_law_node"] "_law_turn" (defScope s__law_turn) x.f__law_turn cdv A' outer s H E) rfl rfl rfl rfl
  exact (ss_cons (ss_set nd (se_ix se_var se_str)) (ss_cons (ss_if (st_cmp od_lt (se_call (ok__law_draw T) fn_len__law_draw (hr.mono (by decide)) T.m__law_draw T.F__law_draw.kp T.b__law_draw tk (sa_cons se_var (sa_cons se_var (sa_cons se_int sa_nil)))) se_int) (ss_cons (ss_set nd (se_call (ok__law_deed T) fn_len__law_deed (hr.mono (by decide)) T.m__law_deed T.F__law_deed.kp T.b__law_deed tk (sa_cons se_var (sa_cons se_var (sa_cons (se_ix (se_ix se_var se_str) se_var) sa_nil))))) (ss_cons (ss_if (st_cmp (od_eq hu) (se_call (ok__law_draw T) fn_len__law_draw (hr.mono (by decide)) T.m__law_draw T.F__law_draw.kp T.b__law_draw tk (sa_cons se_var (sa_cons se_var (sa_cons se_int sa_nil)))) se_int) (ss_one (ss_set nd (se_tup (sa_cons se_str (sa_cons se_str sa_nil))))) ss_nil) (ss_cons (ss_set nd (se_call (ok__law_done T) fn_len__law_done (hr.mono (by decide)) T.m__law_done T.F__law_done.kp T.b__law_done tk (sa_cons (se_ix (se_ix se_var se_str) se_var) (sa_cons se_var sa_nil)))) (ss_cons (ss_set nd (se_call (ok__law_told T) fn_len__law_told (hr.mono (by decide)) T.m__law_told T.F__law_told.kp T.b__law_told tk (sa_cons se_var (sa_cons se_str (sa_cons se_var sa_nil))))) (ss_cons (ss_if (st_cmp od_is se_var se_non) (ss_one (ss_ret (se_cmp (od_eq hu) se_var (se_tup (sa_cons se_str (sa_cons se_str sa_nil)))))) ss_nil) (ss_cons (ss_set nd (se_callB cd_len T.z_len (sa_cons (se_ix se_var se_str) sa_nil))) (ss_cons (ss_expr (se_meth (k := .lst) PySem.F.plainAttrs_list PySem.F.slot_list_append PySem.F.type_list_append md_append (se_ix se_var se_str) (sa_cons se_var sa_nil))) (ss_cons (ss_expr (se_meth (k := .lst) PySem.F.plainAttrs_list PySem.F.slot_list_append PySem.F.type_list_append md_append (se_ix se_var se_str) (sa_cons se_var sa_nil))) (ss_cons (ss_expr (se_meth (k := .lst) PySem.F.plainAttrs_list PySem.F.slot_list_append PySem.F.type_list_append md_append (se_ix se_var se_str) (sa_cons se_var sa_nil))) (ss_cons (ss_put hu se_var se_str se_var) (ss_one (ss_ret (se_cmp (od_eq hu) se_var se_var))))))))))))) ss_nil) (ss_cons (ss_set nd (se_call (ok__law_draw T) fn_len__law_draw (hr.mono (by decide)) T.m__law_draw T.F__law_draw.kp T.b__law_draw tk (sa_cons se_var (sa_cons se_var (sa_cons (se_bin od_add (se_callB cd_len T.z_len (sa_cons (se_ix se_var se_str) sa_nil)) se_int) sa_nil))))) (ss_cons (ss_if (st_cmp (od_eq hu) se_var (se_callB cd_len T.z_len (sa_cons (se_ix se_var se_str) sa_nil))) (ss_one (ss_ret (se_cmp (od_eq hu) (se_call (ok__law_told T) fn_len__law_told (hr.mono (by decide)) T.m__law_told T.F__law_told.kp T.b__law_told tk (sa_cons se_var (sa_cons se_str (sa_cons (se_call (ok__law_pick T) fn_len__law_pick (hr.mono (by decide)) T.m__law_pick T.F__law_pick.kp T.b__law_pick tk (sa_cons se_var (sa_cons se_var (sa_cons (se_lst (sa_cons se_var (sa_cons (se_un ou_neg se_int) sa_nil))) sa_nil)))) sa_nil)))) (se_tup (sa_cons se_str (sa_cons se_str sa_nil)))))) ss_nil) (ss_cons (ss_if (st_tru (se_call (ok__law_is_said T) fn_len__law_is_said (hr.mono (by decide)) T.m__law_is_said T.F__law_is_said.kp T.b__law_is_said tk (sa_cons se_var (sa_cons se_var (sa_cons se_var sa_nil))))) (ss_one (ss_ret (se_cmp (od_eq hu) (se_call (ok__law_told T) fn_len__law_told (hr.mono (by decide)) T.m__law_told T.F__law_told.kp T.b__law_told tk (sa_cons se_var (sa_cons se_str (sa_cons se_var sa_nil)))) (se_tup (sa_cons se_str (sa_cons se_str sa_nil)))))) ss_nil) (ss_cons (ss_put hu se_var se_str se_var) (ss_one (ss_ret (se_cmp od_is (se_call (ok__law_told T) fn_len__law_told (hr.mono (by decide)) T.m__law_told T.F__law_told.kp T.b__law_told tk (sa_cons se_var (sa_cons se_str (sa_cons se_var sa_nil)))) se_non)))))))))
theorem sc__law_nodes : FnScope ["_law_tree", "_law_state", "_law_many", "_law_tips", "_law_node", "_law_children", "_law_found", "_law_board_here", "_law_deed_here", "_law_one"] ["_law_tree", "_law_state", "_law_many"] (defScope s__law_nodes) := ⟨rfl, rfl, rfl, by decide +kernel, rfl, by decide +kernel, by decide +kernel⟩
theorem ok__law_nodes (T : Txt K w mg x) : FnOk P w K mg base (L2.CX P w) 8 x.f__law_nodes x.fd__law_nodes ["_law_tree", "_law_state", "_law_many"] (spD ⟨K, w, x.a⟩ 3 g__law_nodes) := by
  refine fn_ok (m := m__law_nodes) (g := g__law_nodes) rfl rfl rfl T.F__law_nodes sc__law_nodes fun cdv A' outer s H E Pv hr => ?_
  have hu := hr.units
  have nd := sc__law_nodes.nd
  have tk := takes_of (X := cxOf (L2.CX P w) P w K mg base ["_law_tree", "_law_state", "_law_many", "_law_tips", "_law_node", "_law_children", "_law_found", "_law_board_here", "_law_deed_here", "_law_one"] "_law_nodes" (defScope s__law_nodes) x.f__law_nodes cdv A' outer s H E) rfl rfl rfl rfl
  exact (ss_cons (ss_setLc (own := [("_law_node", 4)]) (ts := (.one 4)) rfl nd (si_range1 se_var T.z_range) (by show blkC ["_law_tree", "_law_state", "_law_many", "_law_tips", "_law_node", "_law_children", "_law_found", "_law_board_here", "_law_deed_here", "_law_one"] (defScope s__law_nodes) _ _ = true; decide +kernel) (fun _ _ _ _ _ => tg_one nd) (fun _ _ _ _ _ _ => spts_one (st_cmp (od_notin hu) se_var (se_ix se_var se_str))) (fun _ _ _ _ _ _ => se_var) (sw_true rfl rfl rfl rfl)) (ss_cons (ss_if (sw_pt (sw_or (st_cmp (od_ne hu) (se_mth0 (ok_Tree_many T) fn_len_Tree_many (hr.mono (by decide)) T.c_Tree T.me_Tree_many T.b_Tree_many tk se_var) se_var) (sw_or1 (st_cmp (od_ne hu) (se_mth0 (ok_Tree_tips T) fn_len_Tree_tips (hr.mono (by decide)) T.c_Tree T.me_Tree_tips T.b_Tree_tips tk se_var) se_var)))) (ss_one (ss_ret se_bl)) ss_nil) (ss_cons (ss_for (passes_of rfl) rfl (si_range1 se_var T.z_range) (sg_name nd) (ss_cons (ss_setLc (own := [("_law_one", 9)]) (ts := (.one 9)) rfl nd (si_range1 se_var T.z_range) (by show blkC ["_law_tree", "_law_state", "_law_many", "_law_tips", "_law_node", "_law_children", "_law_found", "_law_board_here", "_law_deed_here", "_law_one"] (defScope s__law_nodes) _ _ = true; decide +kernel) (fun _ _ _ _ _ => tg_one nd) (fun _ _ _ _ _ _ => spts_one (st_cmp (od_eq hu) (se_ix (se_ix se_var se_str) se_var) se_var)) (fun _ _ _ _ _ _ => se_var) (sw_true rfl rfl rfl rfl)) (ss_cons (ss_if (sw_pt (sw_or (st_cmp (od_ne hu) (se_mth (ok_Tree_parent T) fn_len_Tree_parent (hr.mono (by decide)) T.c_Tree T.me_Tree_parent T.b_Tree_parent tk se_var (sa_cons se_var sa_nil)) (se_ix (se_ix se_var se_str) se_var)) (sw_or1 (st_cmp (od_ne hu) (se_mth (ok_Tree_children T) fn_len_Tree_childrenC (hr.mono (by decide)) T.c_Tree T.me_Tree_children T.b_Tree_children tk se_var (sa_cons se_var sa_nil)) se_var)))) (ss_one (ss_ret se_bl)) ss_nil) (ss_cons (ss_set nd (se_call (ok__law_told T) fn_len__law_told (hr.mono (by decide)) T.m__law_told T.F__law_told.kp T.b__law_told tk (sa_cons se_var (sa_cons se_str (sa_cons se_var sa_nil))))) (ss_one (ss_if (st_tru (se_call (ok__law_is_said T) fn_len__law_is_said (hr.mono (by decide)) T.m__law_is_said T.F__law_is_said.kp T.b__law_is_said tk (sa_cons se_var (sa_cons se_int (sa_cons se_var sa_nil))))) (ss_one (ss_if (st_cmp (od_ne hu) se_var (se_tup (sa_cons se_str (sa_cons se_str sa_nil)))) (ss_one (ss_ret se_bl)) ss_nil)) (ss_cons (ss_set nd (se_ix (se_ix se_var se_str) se_int)) (ss_cons (ss_for (passes_of rfl) rfl (si_at se_var) (sg_name nd) (ss_one (ss_set nd (se_call (ok__law_done T) fn_len__law_done (hr.mono (by decide)) T.m__law_done T.F__law_done.kp T.b__law_done tk (sa_cons se_var (sa_cons se_var sa_nil)))))) (ss_one (ss_if (st_cmp (od_ne hu) se_var (se_ix (se_ix se_var se_str) se_var)) (ss_one (ss_ret se_bl)) ss_nil)))))))))) (ss_one (ss_ret se_bl)))))
theorem sc_law : FnScope ["_law_script", "_law_town", "_law_board_here", "_law_tree", "_law_state", "_law_k", "_law_many", "_law_lent", "_law_word"] ["_law_script"] (defScope s_law) := ⟨rfl, rfl, rfl, by decide +kernel, rfl, by decide +kernel, by decide +kernel⟩
theorem ok_law (T : Txt K w mg x) : FnOk P w K mg base (L2.CX P w) 9 x.f_law x.fd_law ["_law_script"] (spD ⟨K, w, x.a⟩ 1 g_law) := by
  refine fn_ok (m := m_law) (g := g_law) rfl rfl rfl T.F_law sc_law fun cdv A' outer s H E Pv hr => ?_
  have hu := hr.units
  have nd := sc_law.nd
  have tk := takes_of (X := cxOf (L2.CX P w) P w K mg base ["_law_script", "_law_town", "_law_board_here", "_law_tree", "_law_state", "_law_k", "_law_many", "_law_lent", "_law_word"] "law" (defScope s_law) x.f_law cdv A' outer s H E) rfl rfl rfl rfl
  exact (ss_cons (ss_set nd (se_lst sa_nil)) (ss_cons (ss_set nd (se_call (ok__law_board T) fn_len__law_board (hr.mono (by decide)) T.m__law_board T.F__law_board.kp T.b__law_board tk (sa_cons se_var (sa_cons se_var sa_nil)))) (ss_cons (ss_set nd (se_mk T.mk_Tree (ok_Tree_init T) fn_len_Tree_init (hr.mono (by decide)) T.mc_Tree T.b_Tree_init tk (sa_cons se_var sa_nil))) (ss_cons (ss_set nd (se_dict (spp_cons (fun _ => se_str) (fun _ => (se_lst (sa_cons se_var sa_nil))) (spp_cons (fun _ => se_str) (fun _ => (se_lst (sa_cons se_non sa_nil))) (spp_cons (fun _ => se_str) (fun _ => (se_lst (sa_cons (se_tup (sa_cons se_str sa_nil)) sa_nil))) (spp_cons (fun _ => se_str) (fun _ => se_int) spp_nil)))))) (ss_cons (ss_for (passes_of rfl) rfl (si_range1 (se_call (ok__law_draw T) fn_len__law_draw (hr.mono (by decide)) T.m__law_draw T.F__law_draw.kp T.b__law_draw tk (sa_cons se_var (sa_cons se_var (sa_cons se_int sa_nil)))) T.z_range) (sg_name nd) (ss_cons (ss_if (st_not (st_tru (se_call (ok__law_turn T) fn_len__law_turn (hr.mono (by decide)) T.m__law_turn T.F__law_turn.kp T.b__law_turn tk (sa_cons se_var (sa_cons se_var (sa_cons se_var (sa_cons se_var sa_nil))))))) (ss_one (ss_ret se_bl)) ss_nil) (ss_one (ss_if (sw_pt (sw_or (st_cmp (od_ne hu) (se_mth0 (ok_Tree_at T) fn_len_Tree_at (hr.mono (by decide)) T.c_Tree T.me_Tree_at T.b_Tree_at tk se_var) (se_ix se_var se_str)) (sw_or1 (st_cmp (od_ne hu) (se_mth0 (ok_Tree_board T) fn_len_Tree_boardC (hr.mono (by decide)) T.c_Tree T.me_Tree_board T.b_Tree_board tk se_var) (se_ix (se_ix se_var se_str) (se_ix se_var se_str)))))) (ss_one (ss_ret se_bl)) ss_nil)))) (ss_cons (ss_set nd (se_callB cd_len T.z_len (sa_cons (se_ix se_var se_str) sa_nil))) (ss_cons (ss_if (st_not (st_tru (se_call (ok__law_nodes T) fn_len__law_nodes (hr.mono (by decide)) T.m__law_nodes T.F__law_nodes.kp T.b__law_nodes tk (sa_cons se_var (sa_cons se_var (sa_cons se_var sa_nil)))))) (ss_one (ss_ret se_bl)) ss_nil) (ss_cons (ss_set nd (se_mth0 (ok_Tree_board T) fn_len_Tree_boardC (hr.mono (by decide)) T.c_Tree T.me_Tree_board T.b_Tree_board tk se_var)) (ss_cons (ss_put hu se_var se_str (se_tup (sa_cons se_str (sa_cons se_int sa_nil)))) (ss_cons (ss_expr (se_meth (k := .lst) PySem.F.plainAttrs_list PySem.F.slot_list_append PySem.F.type_list_append md_append (se_mth (ok_Tree_children T) fn_len_Tree_childrenC (hr.mono (by decide)) T.c_Tree T.me_Tree_children T.b_Tree_children tk se_var (sa_cons se_int sa_nil)) (sa_cons se_int sa_nil))) (ss_cons (ss_if (sw_pt (sw_or (st_cmp (od_ne hu) (se_mth0 (ok_Tree_board T) fn_len_Tree_boardC (hr.mono (by decide)) T.c_Tree T.me_Tree_board T.b_Tree_board tk se_var) (se_ix (se_ix se_var se_str) (se_ix se_var se_str))) (sw_or1 (st_cmp (od_in hu) se_int (se_mth (ok_Tree_children T) fn_len_Tree_childrenC (hr.mono (by decide)) T.c_Tree T.me_Tree_children T.b_Tree_children tk se_var (sa_cons se_int sa_nil)))))) (ss_one (ss_ret se_bl)) ss_nil) (ss_one (ss_ret (se_cmp (od_eq hu) (se_lc (own := [("_law_word", 8)]) (ts := (.one 8)) rfl nd (si_at (se_tup (sa_cons se_str (sa_cons se_str sa_nil)))) (by show blkC ["_law_script", "_law_town", "_law_board_here", "_law_tree", "_law_state", "_law_k", "_law_many", "_law_lent", "_law_word"] (defScope s_law) _ _ = true; decide +kernel) (fun _ _ _ _ _ => tg_one nd) (fun _ _ _ _ _ _ => spts_nil) (fun _ _ _ _ _ _ => (se_call (ok__law_told T) fn_len__law_told (hr.mono (by decide)) T.m__law_told T.F__law_told.kp T.b__law_told takes0 (sa_cons se_var (sa_cons se_var (sa_cons se_var sa_nil)))))) (se_bin od_mul (se_lst (sa_cons (se_tup (sa_cons se_str (sa_cons se_str sa_nil))) sa_nil)) se_int)))))))))))))))
end
end Dee

set_option maxRecDepth 100000
set_option maxHeartbeats 4000000
namespace Dee
open PySem PySem.Spec L2
def encPs (ps : List (Option Nat)) : List D := ps.map fun o => encI (o.map Int.ofNat)
theorem par_at {T : Tr} {bs : List Board} {ps : List (Option Nat)} (c : Coup T bs ps) {i : Nat} (hi : i < bs.length) : T.par (i : Int) = (ps.getD i none).map Int.ofNat ∧ atI (encPs ps) (i : Int) = some (encI (T.par (i : Int))) := by
  obtain ⟨x, h1, h2⟩ := c.nd_lt hi
  have e : T.par (i : Int) = (ps.getD i none).map Int.ofNat := by rw [par_of h2]; exact (c.nod i x h1).2.1
  refine ⟨e, ?_⟩
  have hl : i < (encPs ps).length := by unfold encPs; rw [List.length_map, c.lp]; exact hi
  have ha : atI (encPs ps) (i : Int) = (encPs ps)[i]? := by
    unfold atI ixN
    have h0 : ¬ ((i : Int) < 0) := by omega
    have h1 : (i : Int) < ((encPs ps).length : Nat) := by omega
    simp [h1]
  rw [ha, e]
  unfold encPs
  rw [List.getElem?_map, List.getD_eq_getElem?_getD]
  have hp : i < ps.length := by rw [c.lp]; exact hi
  rw [List.getElem?_eq_getElem hp]; rfl
def encBs (bs : List Board) : List D := bs.map fun b => .dct (encB b)
theorem town_own {T : Tr} {G : Reg} {t : Nat} {R : Store} (own : Own (tw t :: R) (trCells T ++ (0, tw t) :: G)) (t' : Nat) : Own (tw t' :: R) (trCells T ++ (0, tw t') :: G) := by
  have h := (own.perm List.perm_middle).set (tw t')
  exact h.perm List.perm_middle.symm
theorem town_at {S : Store} {T : Tr} {G : Reg} {t : Nat} (own : Own S (trCells T ++ (0, tw t) :: G)) : ∃ R, S = tw t :: R := by
  have h := own.get (n := 0) (c := tw t) (by simp)
  cases S with
  | nil => cases h
  | cons x S => cases h; exact ⟨S, rfl⟩
theorem atI_nat {α : Type} (l : List α) (i : Nat) : atI l (i : Int) = l[i]? := by
  unfold atI ixN
  by_cases h : (i : Int) < (l.length : Nat)
  · simp [h]
  · have : ¬ i < l.length := by omega
    simp [h]
    omega
theorem ix_bs {S : Store} {bl : Nat} {bs : List Board} (h : S[bl]? = some (.lst (encBs bs))) {i : Nat} (hi : i < bs.length) : ixD (.loc bl) (.int (i : Int)) S = some (.dct (encB (bs.getD i [])), S) := by
  rw [ix_cellL h, atI_nat]
  unfold encBs
  rw [List.getElem?_map, List.getD_eq_getElem?_getD, List.getElem?_eq_getElem hi]; rfl
theorem len_bs {S : Store} {bl : Nat} {bs : List Board} (h : S[bl]? = some (.lst (encBs bs))) : lenD [.loc bl] S = some (.int bs.length, S) := by
  show (match asL S (.loc bl) with
    | some ds => some (D.int ds.length, S)
    | none => _) = _
  rw [asL_at h]
  show some (D.int (encBs bs).length, S) = _
  unfold encBs; rw [List.length_map]
theorem encBs_app (bs : List Board) (b : Board) : encBs (bs ++ [b]) = encBs bs ++ [D.dct (encB b)] := by simp [encBs]
theorem encPs_app (bs : List (Option Nat)) (b : Nat) : encPs (bs ++ [some b]) = encPs bs ++ [D.int b] := by simp [encPs, encI]
theorem eqZ_same {f : D → D → Option Bool} : ∀ {xs : List D}, (∀ x ∈ xs, f x x = some true) → eqZ f xs xs = some true
  | [], _ => rfl
  | x :: xs, h => by
    have h1 := h x (by simp)
    have h2 := eqZ_same (f := f) (xs := xs) fun y hy => h y (List.mem_cons_of_mem _ hy)
    simp [eqZ, h1, h2]
theorem eqD_lst (S : Store) (n : Nat) (xs : List D) (h : ∀ x ∈ xs, eqD S n x x = some true) : eqD S (n + 1) (.lst xs) (.lst xs) = some true := by
  show (if xs.length = xs.length then eqZ (eqD S n) xs xs else some false) = _
  rw [if_pos rfl, eqZ_same h]
theorem eqD_tupS (S : Store) (n : Nat) (xs : List D) (h : ∀ x ∈ xs, eqD S n x x = some true) : eqD S (n + 1) (.tup xs) (.tup xs) = some true := by
  show (match eqZ (eqD S n) xs xs with
    | some r => some (r && decide (xs.length = xs.length))
    | none => none) = _
  rw [eqZ_same h]; simp
theorem eqD_int (S : Store) (n : Nat) (i : Int) : eqD S (n + 1) (.int i) (.int i) = some true := by
  show some (decide (i = i)) = _
  simp
theorem eqD_ints (S : Store) (n : Nat) (l : List Int) : eqD S (n + 2) (.lst (l.map .int)) (.lst (l.map .int)) = some true :=
  eqD_lst S (n + 1) _ fun x hx => by obtain ⟨i, _, rfl⟩ := List.mem_map.mp hx; exact eqD_int S n i
theorem in_ints (S : Store) (b : Bool) (n : Int) (l : List Int) : inD b (.int n) (.lst (l.map .int)) S = some (.bl (b != decide (n ∈ l)), S) := by
  show (anyEq S (.int n) (l.map .int)).map _ = _
  rw [anyEq_ints]; rfl
end Dee

set_option maxRecDepth 100000
set_option maxHeartbeats 4000000
namespace Dee
open PySem PySem.Spec L2
noncomputable abbrev cSd : MT := (tVal (mBin (isND true) (mVar 4) (mC .non)))
noncomputable abbrev bSd : MS := (mSeq (mEx (mMeth .lst appendD (mVar 5) (aCons (mVar 4) (aNil)))) (mAsg (mBin ixD (mBin ixD (mVar 0) (mC (.str "parents"))) (mVar 4)) (gVar 4)))
noncomputable abbrev fSd : MS := (mSeq (mAsg (mLst true (aNil)) (gVar 5)) (mSeq (mWhile cSd bSd) (mEx (mMeth .lst appendD (mVar 3) (aCons (mVar 5) (aNil))))))
theorem m_said : m__law_is_said = mSeq (mAsg (mLst true (aNil)) (gVar 3)) (mSeq (mFor (iAt (mTup (aCons (mVar 1) (aCons (mVar 2) (aNil))))) (gVar 4) fSd) (mSeq (mAsg (mLc false (iAt (mBin (addD false) (mBin ixD (mVar 3) (mC (.int 0))) (mBin ixD (mVar 3) (mC (.int 1))))) [4] (TgS.g (.one 4)) (tVal (mBin neO (mBin (inD false) (mVar 4) (mBin ixD (mVar 3) (mC (.int 0)))) (mBin (inD false) (mVar 4) (mBin ixD (mVar 3) (mC (.int 1)))))) (mVar 4)) (gVar 6)) (mRt (mApp anyD (aCons (mLc false (iAt (mVar 6)) [4] (TgS.g (.one 4)) (tYesD) (mBin eqO (mBin ixD (mBin ixD (mBin ixD (mVar 0) (mC (.str "deeds"))) (mVar 4)) (mC (.int 0))) (mC (.str "say")))) (aNil)))))) := rfl

/-! ### the law's state -/
def stF (h : Int) (bl pl dl : Nat) : List (Key × D) := [(.inr "boards", .loc bl), (.inr "parents", .loc pl), (.inr "deeds", .loc dl), (.inr "here", .int h)]
theorem st_parents (h : Int) (bl pl dl : Nat) : lk (stF h bl pl dl) (.inr (Str.ofString "parents")) = some (.loc pl) := rfl
theorem st_boards (h : Int) (bl pl dl : Nat) : lk (stF h bl pl dl) (.inr (Str.ofString "boards")) = some (.loc bl) := rfl
theorem st_deeds (h : Int) (bl pl dl : Nat) : lk (stF h bl pl dl) (.inr (Str.ofString "deeds")) = some (.loc dl) := rfl
theorem st_here (h : Int) (bl pl dl : Nat) : lk (stF h bl pl dl) (.inr (Str.ofString "here")) = some (.int h) := rfl
theorem said_loop {S : Store} {T : Tr} {bs : List Board} {ps : List (Option Nat)} (c : Coup T bs ps) {st bl pl dl : Nat} {h : Int} (hst : S[st]? = some (.dct (stF h bl pl dl))) (hp : S[pl]? = some (.lst (encPs ps))) (x1 x2 x3 x6 : Option D) : ∀ (f i : Nat) (pre : List Int), i ≤ f → i < bs.length → pre.length + f < 900000 →
    whileN cSd bSd (f + 2) [some (.loc st), x1, x2, x3, some (.int (i : Int)), some (.loc S.length), x6] (S ++ [.lst (pre.map .int)]) = .nx [some (.loc st), x1, x2, x3, some .non, some (.loc S.length), x6] (S ++ [.lst ((pre ++ above T (i : Int)).map .int)]) := by
  have hat : ∀ ds, (S ++ [Cell.lst ds])[S.length]? = some (.lst ds) := fun ds => List.getElem?_concat_length
  have w := c.wf.toWf
  have step : ∀ (f i : Nat) (pre : List Int), i < bs.length → pre.length < 900000 → whileN cSd bSd (f + 1) [some (.loc st), x1, x2, x3, some (.int (i : Int)), some (.loc S.length), x6] (S ++ [.lst (pre.map .int)]) = whileN cSd bSd f [some (.loc st), x1, x2, x3, some (encI (T.par (i : Int))), some (.loc S.length), x6] (S ++ [.lst ((pre ++ [(i : Int)]).map .int)]) := by
    intro f i pre hi hl
    have e2 := append_at (hat (pre.map .int)) (by rw [List.length_map]; omega) (.int (i : Int))
    have e3 := set_len S (.lst (pre.map .int)) (.lst (pre.map .int ++ [.int (i : Int)]))
    have e4 := isK_lst (hat (pre.map .int))
    rw [e3] at e2
    have e5 : (pre ++ [(i : Int)]).map D.int = pre.map D.int ++ [.int (i : Int)] := by simp
    have s1 := ix_cellS (get_grow (G := [.lst (pre.map .int ++ [.int (i : Int)])]) hst) (Str.ofString "parents")
    have s2 := ix_cellL (get_grow (G := [.lst (pre.map .int ++ [.int (i : Int)])]) hp) (i : Int)
    rw [(par_at c hi).2] at s2
    rw [st_parents] at s1
    rw [e5]
    conv => lhs; unfold whileN
    simp [e4, e2, s1, s2]
  have stop : ∀ (f : Nat) (S' : Store), whileN cSd bSd (f + 1) [some (.loc st), x1, x2, x3, some .non, some (.loc S.length), x6] S' = .nx [some (.loc st), x1, x2, x3, some .non, some (.loc S.length), x6] S' := by
    intro f S'
    unfold whileN
    simp
  intro f
  induction f with
  | zero =>
    intro i pre hf hi hl
    have hi0 : i = 0 := by omega
    subst hi0
    have h0 : T.par ((0 : Nat) : Int) = none := by
      obtain ⟨x, h1, h2⟩ := c.nd_lt hi
      rw [(par_at c hi).1, (c.nod 0 x h1).2.2.2.1 rfl]; rfl
    rw [step 1 0 pre hi (by omega), h0, above_eq w, h0]
    exact stop 0 _
  | succ f ih =>
    intro i pre hf hi hl
    rw [step (f + 2) i pre hi (by omega), above_eq w]
    cases hpp : T.par (i : Int) with
    | none => exact stop (f + 1) _
    | some p =>
      obtain ⟨q, d, rfl, hq, _⟩ := c.step hpp
      have ih' := ih q (pre ++ [(i : Int)]) (by omega) (by omega) (by rw [List.length_append, List.length_singleton]; omega)
      have e6 : pre ++ (i : Int) :: above T (q : Int) = pre ++ [(i : Int)] ++ above T (q : Int) := by simp
      show _ = SOut.nx _ (S ++ [.lst ((pre ++ (i : Int) :: above T (q : Int)).map .int)])
      rw [e6]
      exact ih'
/-- the deeds, as the law keeps them -/
structure DeedL (T : Tr) (ds : List D) : Prop where
  at_ : ∀ (i : Nat) (p : Int), T.par (i : Int) = some p → ∃ d, T.dd (i : Int) = some d ∧ ds[i]? = some (encD d)
theorem addD_loc {S : Store} {a b : Nat} {xs ys : List D} (ha : S[a]? = some (.lst xs)) (hb : S[b]? = some (.lst ys)) (hl : xs.length + ys.length ≤ 1000000) : addD false (.loc a) (.loc b) S = some (.lst (xs ++ ys), S) := by
  show (match asM S (.loc a), asM S (.loc b) with
    | some a, some b => if a.length + b.length ≤ 1000000 then outL false (a ++ b) S else none
    | _, _ => none) = _
  have e1 : asM S (.loc a) = some xs := by simp [asM, ha]
  have e2 : asM S (.loc b) = some ys := by simp [asM, hb]
  rw [e1, e2]
  show (if xs.length + ys.length ≤ 1000000 then _ else _) = _
  rw [if_pos hl]; rfl
theorem in_loc {S : Store} {a : Nat} {xs : List Int} (ha : S[a]? = some (.lst (xs.map .int))) (n : Int) (b : Bool) : inD b (.int n) (.loc a) S = some (.bl (b != decide (n ∈ xs)), S) := by
  show (match asL S (.loc a) with
    | some ds => (anyEq S (.int n) ds).map fun r => (D.bl (b != r), S)
    | none => _) = _
  rw [asL_at ha]
  show (anyEq S (.int n) (xs.map .int)).map _ = _
  rw [anyEq_ints]; rfl
theorem nonroot {T : Tr} {bs : List Board} {ps : List (Option Nat)} (c : Coup T bs ps) {a e : Nat} (ha : (T.nd (a : Int)).isSome = true) (he : (T.nd (e : Int)).isSome = true) {n : Int} (hn : n ∈ above T (a : Int)) (hne : n ∉ above T (e : Int)) : ∃ q p : Nat, n = (q : Int) ∧ q < bs.length ∧ T.par (q : Int) = some (p : Int) := by
  have w := c.wf
  have hm := above_mem w.toWf _ (a : Int) (Nat.le_refl _) ha n hn
  obtain ⟨q, hq⟩ : ∃ q : Nat, n = (q : Int) := ⟨n.toNat, by omega⟩
  subst hq
  have hlt := (c.nd_iff.mp hm.1).2
  cases hp : T.par (q : Int) with
  | none =>
    obtain ⟨x, hx⟩ := Option.isSome_iff_exists.mp hm.1
    obtain ⟨xm, xk⟩ := nd_mem hx
    have hxp : x.par = none := by rw [← par_of hx]; exact hp
    have := w.root x xm hxp
    have hz := above_zero w _ (e : Int) (Nat.le_refl _) he
    exact absurd (by rw [show (q : Int) = 0 by omega]; exact hz) hne
  | some p =>
    obtain ⟨p', d, rfl, _⟩ := c.step hp
    exact ⟨q, p', rfl, by omega, hp⟩
/-- what was said at a node -/
def sayAt (T : Tr) (n : Int) : Bool := ((T.dd n).map isSay).getD false
theorem said_any {T : Tr} {bs : List Board} {ps : List (Option Nat)} (c : Coup T bs ps) {i j : Nat} (hi : (T.nd (i : Int)).isSome = true) (hj : (T.nd (j : Int)).isSome = true) {l r : List Int} {b : Int} (sp : Split T (i : Int) (j : Int) l b r) : (l ++ r).any (sayAt T) = true ↔ saidT T l r := by
  unfold saidT
  rw [List.any_append, Bool.or_eq_true]
  have : (l.any (sayAt T)) = (l.any fun n => (T.oth n).isNone) := by
    rw [Bool.eq_iff_iff, List.any_eq_true, List.any_eq_true]
    have key : ∀ n ∈ l, (sayAt T n = true ↔ (T.oth n).isNone = true) := fun n hn => by
      obtain ⟨q, p, rfl, hq, hp⟩ := nonroot c hi hj (by rw [sp.one]; exact List.mem_append_left _ hn) (sp.lo n hn)
      obtain ⟨p', d, e, _, _, hd, od, ho, hl⟩ := c.step hp
      obtain ⟨b1, hb1, _⟩ := (law_prog (bs.getD p' []) d).of_some hl
      have hb := back_none od hb1
      unfold sayAt
      rw [hd, ho]
      show isSay d = true ↔ _
      rw [Option.isNone_iff_eq_none, hb]
      constructor
      · intro z; cases d <;> first | (cases z; done) | exact ⟨_, rfl⟩
      · rintro ⟨s, rfl⟩; rfl
    constructor
    · rintro ⟨n, hn, e⟩; exact ⟨n, hn, (key n hn).mp e⟩
    · rintro ⟨n, hn, e⟩; exact ⟨n, hn, (key n hn).mpr e⟩
  rw [this]; rfl
theorem run_said {S : Store} {T : Tr} {bs : List Board} {ps : List (Option Nat)} {ds : List D} (c : Coup T bs ps) (hn : bs.length ≤ 400000) {st bl pl dl : Nat} {h : Int} (hst : S[st]? = some (.dct (stF h bl pl dl))) (hp : S[pl]? = some (.lst (encPs ps))) (hd : S[dl]? = some (.lst ds)) (dL : DeedL T ds) {i j : Nat} (hi : i < bs.length) (hj : j < bs.length) {l r : List Int} {b : Int} (sp : Split T (i : Int) (j : Int) l b r) :
    ∃ q : Bool, g__law_is_said [.loc st, .int i, .int j] S = .ok (.bl q) S ∧ (q = true ↔ saidT T l r) := by
  have w := c.wf
  have hi' := (c.nd_iff (i := (i : Int))).mpr ⟨by omega, by omega⟩
  have hj' := (c.nd_iff (i := (j : Int))).mpr ⟨by omega, by omega⟩
  have bg1 := above_big w.toWf hi'
  have bg2 := above_big w.toWf hj'
  generalize eai : above T (i : Int) = ai at *
  generalize eaj : above T (j : Int) = aj at *
  have lp1 := said_loop (S := S ++ [.lst []]) c (get_grow hst) (get_grow hp) (some (.int (i : Int))) (some (.int (j : Int))) (some (.loc S.length)) none i i [] (Nat.le_refl _) hi (by show 0 + _ < _; omega)
  have hw1 := mWhile_eq (c := cSd) (b := bSd) (n := i + 2) (δ := [some (.loc st), some (.int (i : Int)), some (.int (j : Int)), some (.loc S.length), some (.int (i : Int)), some (.loc (S ++ [Cell.lst []]).length), none]) (S := S ++ [Cell.lst []] ++ [.lst (([] : List Int).map D.int)]) (by
    rw [lp1]; exact fun z => by cases z)
  rw [lp1, List.nil_append, eai] at hw1
  have lp2 := said_loop (S := S ++ [.lst [.loc (S.length + 1)], .lst (ai.map .int)]) c (get_grow hst) (get_grow hp) (some (.int (i : Int))) (some (.int (j : Int))) (some (.loc S.length)) none j j [] (Nat.le_refl _) hj (by show 0 + _ < _; omega)
  have hw2 := mWhile_eq (c := cSd) (b := bSd) (n := j + 2) (δ := [some (.loc st), some (.int (i : Int)), some (.int (j : Int)), some (.loc S.length), some (.int (j : Int)), some (.loc (S ++ [Cell.lst [.loc (S.length + 1)], .lst (ai.map .int)]).length), none]) (S := S ++ [Cell.lst [.loc (S.length + 1)], .lst (ai.map .int)] ++ [.lst (([] : List Int).map D.int)]) (by
    rw [lp2]; exact fun z => by cases z)
  rw [lp2, List.nil_append, eaj] at hw2
  simp only [List.length_append, List.length_cons, List.length_nil, List.map_nil, List.append_assoc, List.cons_append, List.nil_append, Nat.zero_add, Nat.reduceAdd] at hw1 hw2
  have ga : ∀ (l : Store), l ≠ [] → (S ++ l)[S.length]? = l[0]? := fun l _ => get_at0 S l
  have ap : ∀ (ws : List D) (x : D) (G : Store), ws.length < 1000000 → appendD (.loc S.length) [x] (S ++ .lst ws :: G) = some (.non, S ++ .lst (ws ++ [x]) :: G) := fun ws x G hl => by
    rw [append_at (by rw [get_at0]; rfl) hl, set_at0]; rfl
  have ik : ∀ (ws : List D) (G : Store), isK .lst (S ++ .lst ws :: G) (.loc S.length) = true := fun ws G => isK_lst (by rw [get_at0]; rfl)
  have n0 : ∀ S', nxtD S' 0 (.at_ (.tup [.int (i : Int), .int (j : Int)])) = some (some (.int (i : Int))) := fun _ => rfl
  have n1 : ∀ S', nxtD S' 1 (.at_ (.tup [.int (i : Int), .int (j : Int)])) = some (some (.int (j : Int))) := fun _ => rfl
  have n2 : ∀ S', nxtD S' 2 (.at_ (.tup [.int (i : Int), .int (j : Int)])) = some none := fun _ => rfl
  have cn : ∀ S', cntD S' (.at_ (.tup [.int (i : Int), .int (j : Int)])) = 3 := fun _ => rfl
  have b1 : fSd [some (.loc st), some (.int (i : Int)), some (.int (j : Int)), some (.loc S.length), some (.int (i : Int)), none, none] (S ++ [.lst []]) = .nx [some (.loc st), some (.int (i : Int)), some (.int (j : Int)), some (.loc S.length), some .non, some (.loc (S.length + 1)), none] (S ++ [.lst [.loc (S.length + 1)], .lst (ai.map .int)]) := by
    unfold fSd
    generalize mWhile cSd bSd = M at *
    simp [outL, hw1, ik, ap]
  have b2 : fSd [some (.loc st), some (.int (i : Int)), some (.int (j : Int)), some (.loc S.length), some (.int (j : Int)), some (.loc (S.length + 1)), none] (S ++ [.lst [.loc (S.length + 1)], .lst (ai.map .int)]) = .nx [some (.loc st), some (.int (i : Int)), some (.int (j : Int)), some (.loc S.length), some .non, some (.loc (S.length + 2)), none] (S ++ [.lst [.loc (S.length + 1), .loc (S.length + 2)], .lst (ai.map .int), .lst (aj.map .int)]) := by
    unfold fSd
    generalize mWhile cSd bSd = M at *
    simp [outL, hw2, ik, ap]
  let S3 : Store := S ++ [.lst [.loc (S.length + 1), .loc (S.length + 2)], .lst (ai.map .int), .lst (aj.map .int)]
  have gw : S3[S.length]? = some (.lst [.loc (S.length + 1), .loc (S.length + 2)]) := get_at0 S _
  have g1 : S3[S.length + 1]? = some (.lst (ai.map .int)) := get_at S _ 1
  have g2 : S3[S.length + 2]? = some (.lst (aj.map .int)) := get_at S _ 2
  have x0 : ixD (.loc S.length) (.int 0) S3 = some (.loc (S.length + 1), S3) := by rw [ix_cellL gw]; rfl
  have x1 : ixD (.loc S.length) (.int 1) S3 = some (.loc (S.length + 2), S3) := by rw [ix_cellL gw]; rfl
  have la : ai.length ≤ 400001 := by omega
  have lb : aj.length ≤ 400001 := by omega
  have ad := addD_loc g1 g2 (by rw [List.length_map, List.length_map]; omega)
  rw [← List.map_append] at ad
  have eqb : ∀ a b : Bool, eqTop S3 (.bl a) (.bl b) = some (decide (a = b)) := fun a b => by
    show some (decide _) = _
    cases a <;> cases b <;> rfl
  have c1 := mLc_filter (ts := .one 4) (vs := [4]) (mi := iAt (mBin (addD false) (mBin ixD (mVar 3) (mC (.int 0))) (mBin ixD (mVar 3) (mC (.int 1))))) (t := tVal (mBin neO (mBin (inD false) (mVar 4) (mBin ixD (mVar 3) (mC (.int 0)))) (mBin (inD false) (mVar 4) (mBin ixD (mVar 3) (mC (.int 1)))))) (me := mVar 4)
    (δ := [some (.loc st), some (.int (i : Int)), some (.int (j : Int)), some (.loc S.length), some .non, some (.loc (S.length + 2)), none]) (S := S3) (d := .lst ((ai ++ aj).map .int)) (l := ai ++ aj) (g := D.int) (h := D.int) (p := fun n => !decide (decide (n ∈ ai) = decide (n ∈ aj)))
    (by simp [-List.map_append, x0, x1, ad]) rfl (by rw [List.length_append]; omega) (by
      intro n hn
      have i1 := in_loc g1 n false
      have i2 := in_loc g2 n false
      rw [Bool.false_bne] at i1 i2
      refine ⟨_, rfl, ?_, fun _ => by simp [wipeD]⟩
      simp [-decide_eq_decide, wipeD, x0, x1, i1, i2, eqb])
  have hf : ((ai ++ aj).filter fun n => !decide (decide (n ∈ ai) = decide (n ∈ aj))) = l ++ r := by
    have o1 : ai = l ++ above T b := by rw [← eai]; exact sp.one
    have o2 : aj = r ++ above T b := by rw [← eaj]; exact sp.two
    have lo : ∀ x ∈ l, x ∉ aj := fun x hx => by rw [← eaj]; exact sp.lo x hx
    have ro : ∀ x ∈ r, x ∉ ai := fun x hx => by rw [← eai]; exact sp.ro x hx
    have fl : ∀ q : List Int, (∀ x ∈ q, x ∈ ai ∧ x ∉ aj) → (q.filter fun n => !decide (decide (n ∈ ai) = decide (n ∈ aj))) = q := fun q hq => List.filter_eq_self.mpr fun x hx => by
      rw [decide_eq_true (hq x hx).1, decide_eq_false (hq x hx).2]; rfl
    have fr : ∀ q : List Int, (∀ x ∈ q, x ∉ ai ∧ x ∈ aj) → (q.filter fun n => !decide (decide (n ∈ ai) = decide (n ∈ aj))) = q := fun q hq => List.filter_eq_self.mpr fun x hx => by
      rw [decide_eq_false (hq x hx).1, decide_eq_true (hq x hx).2]; rfl
    have fb : ((above T b).filter fun n => !decide (decide (n ∈ ai) = decide (n ∈ aj))) = [] := List.filter_eq_nil_iff.mpr fun x hx => by
      have h1 : x ∈ ai := by rw [o1]; exact List.mem_append_right _ hx
      have h2 : x ∈ aj := by rw [o2]; exact List.mem_append_right _ hx
      rw [decide_eq_true h1, decide_eq_true h2]; simp
    rw [List.filter_append]
    have k1 := congrArg (List.filter fun n => !decide (decide (n ∈ ai) = decide (n ∈ aj))) o1
    have k2 := congrArg (List.filter fun n => !decide (decide (n ∈ ai) = decide (n ∈ aj))) o2
    rw [List.filter_append, fb, List.append_nil, fl l fun x hx => ⟨by rw [o1]; exact List.mem_append_left _ hx, lo x hx⟩] at k1
    rw [List.filter_append, fb, List.append_nil, fr r fun x hx => ⟨ro x hx, by rw [o2]; exact List.mem_append_left _ hx⟩] at k2
    rw [k1, k2]
  rw [hf] at c1
  have c2 := mLc_map (i := 4) (mi := iAt (mVar 6)) (me := mBin eqO (mBin ixD (mBin ixD (mBin ixD (mVar 0) (mC (.str "deeds"))) (mVar 4)) (mC (.int 0))) (mC (.str "say")))
    (δ := [some (.loc st), some (.int (i : Int)), some (.int (j : Int)), some (.loc S.length), some .non, some (.loc (S.length + 2)), some (.lst ((l ++ r).map .int))]) (S := S3) (d := .lst ((l ++ r).map .int)) (l := l ++ r) (g := D.int) (h := fun n => .bl (sayAt T n))
    (by simp) rfl (by
      have h1 := congrArg List.length eai
      have h2 := congrArg List.length eaj
      rw [sp.one, List.length_append] at h1
      rw [sp.two, List.length_append] at h2
      rw [List.length_append]; omega) (by
      intro n hn
      have hq : ∃ q p : Nat, n = (q : Int) ∧ q < bs.length ∧ T.par (q : Int) = some (p : Int) := by
        rcases List.mem_append.mp hn with hn | hn
        · exact nonroot c hi' hj' (by rw [sp.one]; exact List.mem_append_left _ hn) (sp.lo n hn)
        · exact nonroot c hj' hi' (by rw [sp.two]; exact List.mem_append_left _ hn) (sp.ro n hn)
      obtain ⟨q, p, rfl, hq, hp⟩ := hq
      obtain ⟨d, d1, d2⟩ := dL.at_ q p hp
      have s1 := ix_cellS (get_grow (G := [.lst [.loc (S.length + 1), .loc (S.length + 2)], .lst (ai.map .int), .lst (aj.map .int)]) hst) (Str.ofString "deeds")
      have s2 := ix_cellL (get_grow (G := [.lst [.loc (S.length + 1), .loc (S.length + 2)], .lst (ai.map .int), .lst (aj.map .int)]) hd) (q : Int)
      rw [st_deeds] at s1
      rw [atI_nat, d2] at s2
      have ht : sayAt T (q : Int) = decide (tagD d = "say") := by unfold sayAt; rw [d1]; cases d <;> simp [tagD, isSay]
      simp [wipeD, S3, s1, s2, ix0_encD, ht])
  have hy : anyD [.lst ((l ++ r).map fun n => .bl (sayAt T n))] S3 = some (.bl ((l ++ r).any (sayAt T)), S3) := by
    show (match asBs ((l ++ r).map fun n => D.bl (sayAt T n)) with
      | some bs => some (D.bl (bs.any id), S3)
      | none => none) = _
    rw [asBs_map]
    show some (D.bl (((l ++ r).map (sayAt T)).any id), S3) = _
    rw [List.any_map]; rfl
  refine ⟨(l ++ r).any (sayAt T), ?_, said_any c hi' hj' sp⟩
  rw [call__law_is_said, m_said]
  have hg := gc_app (S := S) (G := [.lst [.loc (S.length + 1), .loc (S.length + 2)], .lst (ai.map .int), .lst (aj.map .int)]) (d := .bl ((l ++ r).any (sayAt T))) rfl
  generalize fSd = B at *
  simp only [S3] at *
  simp [-List.map_append, -List.any_append, outL, cn, forN, n0, n1, n2, b1, b2, c1, c2, hy, hg]
end Dee

set_option maxRecDepth 100000
set_option maxHeartbeats 4000000
namespace Dee
open PySem PySem.Spec L2
/-! ### children -/
def kidsL (ps : List (Option Nat)) (n i : Nat) : List Int := ((List.range n).filter fun k => decide (ps.getD k none = some i)).map Int.ofNat
def CoupK (T : Tr) (bs : List Board) (ps : List (Option Nat)) : Prop := ∀ (i : Nat) (x : Nd), T.nodes[i]? = some x → x.kids = kidsL ps bs.length i
theorem kids_new {n : Nat} {b : Board} : CoupK (newT n b) [b] [none] := by
  intro i x hx
  cases i with
  | zero => cases hx; rfl
  | succ i => cases hx
theorem kids_do {T : Tr} {bs : List Board} {ps : List (Option Nat)} (c : Coup T bs ps) (ck : CoupK T bs ps) {h : Nat} (hh : T.here = h) (hl : h < bs.length) {b' b1 : Board} {d : Deed} {l c' : Nat} : CoupK (doT T b' d l c') (bs ++ [b1]) (ps ++ [some h]) := by
  have hlast : T.last + 1 = (bs.length : Int) := by have := c.last; omega
  have lnew : (T.nodes.map (addKid T.here (T.last + 1))).length = bs.length := by rw [List.length_map, c.ln]
  have key : ∀ i, kidsL (ps ++ [some h]) (bs ++ [b1]).length i = kidsL ps bs.length i ++ (if h = i then [(bs.length : Int)] else []) := by
    intro i
    unfold kidsL
    rw [List.length_append, List.length_singleton, List.range_succ, List.filter_append, List.map_append]
    congr 1
    · congr 1
      refine List.filter_congr fun k hk => ?_
      rw [getD_app ps _ (by rw [c.lp]; exact List.mem_range.mp hk)]
    · have e2 : (ps ++ [some h]).getD bs.length none = some h := by rw [← c.lp, getD_last]
      by_cases hi : h = i
      · subst hi
        rw [List.filter_cons, e2, if_pos (by simp), if_pos rfl]; rfl
      · have : ¬ (some h = some i) := fun z => hi (Option.some.inj z)
        rw [List.filter_cons, e2, decide_eq_false this, if_neg hi]; rfl
  intro i x hx
  have hx : (T.nodes.map (addKid T.here (T.last + 1)) ++ [_])[i]? = some x := hx
  rw [key]
  by_cases hi : i < bs.length
  · rw [List.getElem?_append_left (by rw [lnew]; exact hi), List.getElem?_map] at hx
    obtain ⟨y, hy, rfl⟩ := Option.map_eq_some_iff.mp hx
    have g1 := (c.nod i y hy).1
    have g2 := ck i y hy
    unfold addKid
    by_cases he : h = i
    · rw [if_pos (by omega), if_pos he, ← g2, hlast]
    · rw [if_neg (by omega), if_neg he, List.append_nil]; exact g2
  · have hi2 : i = bs.length := by
      have := (List.getElem?_eq_some_iff.mp hx).1
      rw [List.length_append, lnew, List.length_singleton] at this
      omega
    subst hi2
    rw [← lnew, List.getElem?_concat_length] at hx
    cases hx
    rw [if_neg (by omega), List.append_nil]
    have : ((List.range bs.length).filter fun k => decide (ps.getD k none = some bs.length)) = [] := by
      refine List.filter_eq_nil_iff.mpr fun k hk => ?_
      have hk := List.mem_range.mp hk
      obtain ⟨y, hy, _⟩ := c.nd_lt hk
      obtain ⟨_, _, _, h0, h1⟩ := c.nod k y hy
      by_cases hk0 : k = 0
      · rw [h0 hk0]; simp
      · obtain ⟨p, _, hp, e, _⟩ := h1 hk0
        rw [e]
        simp; omega
    show [] = _
    unfold kidsL
    rw [this]; rfl
section
variable {S : Store} {T : Tr} {bs : List Board} {ps : List (Option Nat)} (k : TOk S T) (c : Coup T bs ps)
include k
theorem run_boardC : g_Tree_boardC [.loc T.n] S = .ok (.loc S.length) (S ++ [.dct (encB T.board)]) := by
  rw [call_Tree_boardC]; unfold m_Tree_boardC
  have hk : isK .dct S (.dct (encB T.board)) = true := rfl
  have hc : copyD true (.dct (encB T.board)) [] S = some (.loc S.length, S ++ [.dct (encB T.board)]) := rfl
  simp [k.ins, hk, hc]
theorem run_need_bad {i : Int} (h : T.nd i = none) : g_Tree_need [.loc T.n, .int i] S = .exn "BadNumber" [] S := by
  rw [run_need k, if_neg (by rw [h]; simp)]
include c
theorem run_many : g_Tree_many [.loc T.n] S = .ok (.int bs.length) S := by
  rw [call_Tree_many]; unfold m_Tree_many
  have hl : lenD [.loc T.nl] S = some (.int bs.length, S) := by
    show (match asQ S (.loc T.nl) with
      | some ds => some (D.int ds.length, S)
      | none => match asK S (.loc T.nl) with
        | some kvs => some (.int kvs.length, S)
        | none => none) = _
    have h1 : asQ S (.loc T.nl) = none := asL_dct k.ns
    rw [h1, asK_at k.ns]
    show some (D.int (ndK T.nodes).length, S) = _
    unfold ndK; rw [List.length_map, c.ln]
  simp [k.ins, hl]
theorem run_parent {i : Nat} (hi : i < bs.length) : g_Tree_parent [.loc T.n, .int i] S = .ok (encI (T.par (i : Int))) S := by
  rw [call_Tree_parent]; unfold m_Tree_parent
  obtain ⟨x, h1, h2⟩ := c.nd_lt hi
  have hn := run_need k (i : Int)
  rw [if_pos (by rw [h2]; rfl)] at hn
  have hf : ∀ o, frzOut (.ok (encI o) S) = .ok (encI o) S := fun o => by cases o <;> rfl
  simp [k.ins, hn, k.ix, h2, k.insN (nd_mem h2).1, par_of h2, hf]
theorem run_childrenC {i : Nat} {x : Nd} (h : T.nodes[i]? = some x) : g_Tree_childrenC [.loc T.n, .int i] S = .ok (.loc S.length) (S ++ [.lst (x.kids.map .int)]) := by
  rw [call_Tree_childrenC]; unfold m_Tree_childrenC
  have h2 := c.nd_at h
  have hm := List.mem_of_getElem? h
  have hn := run_need k (i : Int)
  rw [if_pos (by rw [h2]; rfl)] at hn
  have hl : listD true [.loc x.c] S = some (.loc S.length, S ++ [.lst (x.kids.map .int)]) := by
    show (match asQ S (.loc x.c) with
      | some ds => outL true ds S
      | none => none) = _
    have h1 : asQ S (.loc x.c) = some (x.kids.map .int) := asL_at (k.x x hm).2
    rw [h1]; rfl
  simp [k.ins, hn, k.ix, h2, k.insN hm, hl]
theorem nodes_keys : asKI (ndK T.nodes) = some ((List.range bs.length).map Int.ofNat) ∧ (0 < bs.length → asKS (ndK T.nodes) = none) := by
  have e : T.nodes.map (·.k) = (List.range bs.length).map Int.ofNat := by
    refine List.ext_getElem? fun i => ?_
    rw [List.getElem?_map, List.getElem?_map]
    cases h : T.nodes[i]? with
    | none =>
      have := List.getElem?_eq_none_iff.mp h
      rw [c.ln] at this
      rw [List.getElem?_eq_none (by rw [List.length_range]; exact this)]; rfl
    | some x =>
      have hl := (List.getElem?_eq_some_iff.mp h).1
      rw [c.ln] at hl
      rw [List.getElem?_eq_getElem (by rw [List.length_range]; exact hl), List.getElem_range]
      show some x.k = some (Int.ofNat i)
      rw [(c.nod i x h).1]; rfl
  refine ⟨?_, fun h => ?_⟩
  · rw [← e]
    generalize T.nodes = nn
    induction nn with
    | nil => rfl
    | cons x nn ih =>
      show (asKI (ndK nn)).map (x.k :: ·) = _
      rw [ih]; rfl
  · have : 0 < T.nodes.length := by rw [c.ln]; exact h
    cases hT : T.nodes with
    | nil => rw [hT] at this; cases this
    | cons x nn => rfl
theorem run_tips (hn : bs.length < 64) : g_Tree_tips [.loc T.n] S = .ok (.lst (((List.range bs.length).filter fun i => ((T.nodes[i]?).map (·.kids)).getD [] = []).map fun i => .int (Int.ofNat i))) S := by
  rw [call_Tree_tips]; unfold m_Tree_tips
  have hs : sortedD false [.keys (.loc T.nl)] S = some (.lst ((List.range bs.length).map fun i => .int (Int.ofNat i)), S) := by
    have h1 := nodes_keys k c
    show (match asK S (.loc T.nl) with
      | some kvs => match asKS kvs with
        | some ks => if ks.length < 64 then outL false ((sortS ks).map D.str) S else none
        | none => match asKI kvs with
          | some ks => if ks.length < 64 then outL false ((sortI ks).map D.int) S else none
          | none => none
      | none => none) = _
    rw [asK_at k.ns]
    show (match asKS (ndK T.nodes) with
      | some ks => if ks.length < 64 then outL false ((sortS ks).map D.str) S else none
      | none => match asKI (ndK T.nodes) with
        | some ks => if ks.length < 64 then outL false ((sortI ks).map D.int) S else none
        | none => none) = _
    rw [h1.2 c.pos, h1.1]
    show (if ((List.range bs.length).map Int.ofNat).length < 64 then outL false ((sortI ((List.range bs.length).map Int.ofNat)).map D.int) S else none) = _
    rw [if_pos (by rw [List.length_map, List.length_range]; exact hn)]
    have h2 : (List.range bs.length).map Int.ofNat = sortI ((List.range bs.length).map Int.ofNat) := sortI_eq (List.Perm.refl _) (List.Pairwise.map Int.ofNat (fun a b h => Int.ofNat_le.mpr (Nat.le_of_lt h)) List.pairwise_lt_range)
    rw [← h2, List.map_map]; rfl
  have hk : isK .dct S (.loc T.nl) = true := isK_dct k.ns
  have hkd : keysD (.loc T.nl) [] S = some (.keys (.loc T.nl), S) := by
    unfold keysD
    rw [asK_at k.ns]
  have c1 := mLc_filter (ts := .one 1) (vs := [1]) (mi := iAt (mApp (sortedD false) (aCons (mMeth .dct keysD (mFld "Tree" "nodes" (mVar 0)) aNil) (aNil)))) (t := tNotD (tTru (mFld "Node" "comes" (mBin ixD (mFld "Tree" "nodes" (mVar 0)) (mVar 1))))) (me := mVar 1) (δ := [some (.loc T.n), none]) (S := S) (d := .lst ((List.range bs.length).map fun i => .int (Int.ofNat i))) (l := List.range bs.length) (g := fun i => D.int (Int.ofNat i)) (h := fun i => D.int (Int.ofNat i)) (p := fun i => decide (((T.nodes[i]?).map (·.kids)).getD [] = []))
    (by simp [k.ins, hk, hkd, hs]) rfl (by rw [List.length_range]; omega) (by
      intro i hi
      obtain ⟨x, h1, h2⟩ := c.nd_lt (List.mem_range.mp hi)
      have hx := (k.x x (nd_mem h2).1).2
      have ht : truD S (.loc x.c) = some (!decide (x.kids = [])) := by
        show (match asQ S (.loc x.c) with
          | some ds => some (!ds.isEmpty)
          | none => match asK S (.loc x.c) with
            | some kvs => some (!kvs.isEmpty)
            | none => none) = _
        have h3 : asQ S (.loc x.c) = some (x.kids.map .int) := asL_at hx
        rw [h3]
        cases x.kids <;> rfl
      refine ⟨_, rfl, ?_, fun _ => by simp [wipeD]⟩
      have h2' : T.nd (Int.ofNat i) = some x := h2
      simp [wipeD, k.ins, k.ix, h2, k.insN (nd_mem h2).1, ht, h1])
  simp [c1]
end
end Dee

set_option maxRecDepth 100000
set_option maxHeartbeats 4000000
namespace Dee
open PySem PySem.Spec L2
theorem run_between_bad {S : Store} {T : Tr} (k : TOk S T) {a b : D} {c : Str} (h : g_Tree_path [.loc T.n, a, b] S = .exn c [] S) : g_Tree_between [.loc T.n, a, b] S = .exn c [] S := by
  rw [call_Tree_between]
  unfold m_Tree_between
  simp [k.ins, h]
theorem told_do {S S' : Store} {T : Tr} (k : TOk S T) {a x : D} (h : g_Tree_do [.loc T.n, a] S = .ok x S') : g__law_told [.loc T.n, .str "do", a] S = .ok x S' := by
  rw [call__law_told]
  unfold m__law_told
  simp [ap_tryH, k.ins, h]
theorem told_doX {S S' : Store} {T : Tr} (k : TOk S T) {a : D} {c t : Str} (h : g_Tree_do [.loc T.n, a] S = .exn c [] S') (ht : tagX c = some t) : g__law_told [.loc T.n, .str "do", a] S = .ok (refD t) S' := by
  rw [call__law_told]
  unfold m__law_told
  have hx := exU ht
  have hr := run_refusal ht [] S'
  simp [ap_tryH, k.ins, h, hx, hr]
theorem told_go {S S' : Store} {T : Tr} (k : TOk S T) {a x : D} (h : g_Tree_go [.loc T.n, a] S = .ok x S') : g__law_told [.loc T.n, .str "go", a] S = .ok x S' := by
  rw [call__law_told]
  unfold m__law_told
  simp [ap_tryH, k.ins, h]
theorem told_goX {S S' : Store} {T : Tr} (k : TOk S T) {a : D} {c t : Str} (h : g_Tree_go [.loc T.n, a] S = .exn c [] S') (ht : tagX c = some t) : g__law_told [.loc T.n, .str "go", a] S = .ok (refD t) S' := by
  rw [call__law_told]
  unfold m__law_told
  have hx := exU ht
  have hr := run_refusal ht [] S'
  simp [ap_tryH, k.ins, h, hx, hr]
theorem told_between {S S' : Store} {T : Tr} (k : TOk S T) {a x : D} (h : g_Tree_between [.loc T.n, .int 0, a] S = .ok x S') : g__law_told [.loc T.n, .str "between", a] S = .ok x S' := by
  rw [call__law_told]
  unfold m__law_told
  simp [ap_tryH, k.ins, h]
theorem told_betweenX {S S' : Store} {T : Tr} (k : TOk S T) {a : D} {c t : Str} (h : g_Tree_between [.loc T.n, .int 0, a] S = .exn c [] S') (ht : tagX c = some t) : g__law_told [.loc T.n, .str "between", a] S = .ok (refD t) S' := by
  rw [call__law_told]
  unfold m__law_told
  have hx := exU ht
  have hr := run_refusal ht [] S'
  simp [ap_tryH, k.ins, h, hx, hr]
theorem told_parent {S S' : Store} {T : Tr} (k : TOk S T) {a x : D} (h : g_Tree_parent [.loc T.n, a] S = .ok x S') : g__law_told [.loc T.n, .str "parent", a] S = .ok x S' := by
  rw [call__law_told]
  unfold m__law_told
  simp [ap_tryH, k.ins, h]
theorem told_parentX {S S' : Store} {T : Tr} (k : TOk S T) {a : D} {c t : Str} (h : g_Tree_parent [.loc T.n, a] S = .exn c [] S') (ht : tagX c = some t) : g__law_told [.loc T.n, .str "parent", a] S = .ok (refD t) S' := by
  rw [call__law_told]
  unfold m__law_told
  have hx := exU ht
  have hr := run_refusal ht [] S'
  simp [ap_tryH, k.ins, h, hx, hr]
theorem told_children {S S' : Store} {T : Tr} (k : TOk S T) {a x : D} (h : g_Tree_childrenC [.loc T.n, a] S = .ok x S') : g__law_told [.loc T.n, .str "children", a] S = .ok x S' := by
  rw [call__law_told]
  unfold m__law_told
  simp [ap_tryH, k.ins, h]
theorem told_childrenX {S S' : Store} {T : Tr} (k : TOk S T) {a : D} {c t : Str} (h : g_Tree_childrenC [.loc T.n, a] S = .exn c [] S') (ht : tagX c = some t) : g__law_told [.loc T.n, .str "children", a] S = .ok (refD t) S' := by
  rw [call__law_told]
  unfold m__law_told
  have hx := exU ht
  have hr := run_refusal ht [] S'
  simp [ap_tryH, k.ins, h, hx, hr]

theorem run_Tdo_bad {S : Store} {T : Tr} (k : TOk S T) (ob : okB T.board) {d : Deed} (od : okD d = true) (hp : progDone T.board d = none) : g_Tree_do [.loc T.n, encD d] S = .exn "BadDeed" [] S := by
  have eb : g_back [.dct (encB T.board), encD d] S = .exn "BadDeed" [] S := by
    rw [run_back_prog T.board d S ob (okD_fit od), if_neg (by rw [hp]; simp)]
  rw [call_Tree_do]
  unfold m_Tree_do
  simp [k.ins, eb]
structure I40 (t : Nat) (T : Tr) (bs : List Board) (ps : List (Option Nat)) (ds : List D) (h bl pl dl st : Nat) (R : Store) : Prop where
  own : Own (tw t :: R) (trCells T ++ (0, tw t) :: [(bl, .lst (encBs bs)), (pl, .lst (encPs ps)), (dl, .lst ds), (st, .dct (stF h bl pl dl))])
  c : Coup T bs ps
  ck : CoupK T bs ps
  dL : DeedL T ds
  ln : ds.length = bs.length
  hh : T.here = h
theorem I40.lt {t : Nat} {T : Tr} {bs : List Board} {ps : List (Option Nat)} {ds : List D} {h bl pl dl st : Nat} {R : Store} (I : I40 t T bs ps ds h bl pl dl st R) : h < bs.length := by
  obtain ⟨h', e, hl, _⟩ := I.c.here
  have := I.hh
  omega
theorem stF_put (h h' : Nat) (bl pl dl : Nat) : putL (stF h bl pl dl) (.inr (Str.ofString "here")) (.int h') = stF h' bl pl dl := by
  have e1 : (Sum.inr (Str.ofString "boards") : Key) ≠ .inr (Str.ofString "here") := by decide +kernel
  have e2 : (Sum.inr (Str.ofString "parents") : Key) ≠ .inr (Str.ofString "here") := by decide +kernel
  have e3 : (Sum.inr (Str.ofString "deeds") : Key) ≠ .inr (Str.ofString "here") := by decide +kernel
  simp [putL, stF, e1, e2, e3]
theorem doT_dL {T : Tr} {bs : List Board} {ps : List (Option Nat)} {ds : List D} (c : Coup T bs ps) (dL : DeedL T ds) (hl : ds.length = bs.length) {b' : Board} {d : Deed} {l c' : Nat} {bs' : List Board} {ps' : List (Option Nat)} (cp : Coup (doT T b' d l c') bs' ps') : DeedL (doT T b' d l c') (ds ++ [encD d]) := by
  refine ⟨fun i p hp => ?_⟩
  have hlast : T.last + 1 = (bs.length : Int) := by have := c.last; omega
  have lnew : (T.nodes.map (addKid T.here (T.last + 1))).length = bs.length := by rw [List.length_map, c.ln]
  obtain ⟨x, hx, hxp⟩ := Option.bind_eq_some_iff.mp hp
  obtain ⟨j, e, hj, hn⟩ := cp.nd_some hx
  have : j = i := by omega
  subst this
  have hn : (T.nodes.map (addKid T.here (T.last + 1)) ++ [_])[j]? = some x := hn
  by_cases hi : j < bs.length
  · rw [List.getElem?_append_left (by rw [lnew]; exact hi), List.getElem?_map] at hn
    obtain ⟨y, hy, rfl⟩ := Option.map_eq_some_iff.mp hn
    have f2 : (addKid T.here (T.last + 1) y).par = y.par := by unfold addKid; split <;> rfl
    have f3 : (addKid T.here (T.last + 1) y).deed = y.deed := by unfold addKid; split <;> rfl
    have hyn := c.nd_at hy
    obtain ⟨d', h1, h2⟩ := dL.at_ j p (by rw [par_of hyn, ← f2]; exact hxp)
    refine ⟨d', ?_, by rw [List.getElem?_append_left (by omega)]; exact h2⟩
    unfold Tr.dd at h1 ⊢
    rw [hyn] at h1
    rw [hx]
    show (addKid _ _ y).deed = _
    rw [f3]; exact h1
  · have hi2 : j = bs.length := by
      have := (List.getElem?_eq_some_iff.mp hn).1
      rw [List.length_append, lnew, List.length_singleton] at this
      omega
    subst hi2
    rw [← lnew, List.getElem?_concat_length] at hn
    refine ⟨d, ?_, by rw [← hl, List.getElem?_concat_length]⟩
    unfold Tr.dd
    rw [hx]
    cases hn
    rfl
end Dee

set_option maxRecDepth 100000
set_option maxHeartbeats 4000000
namespace Dee
open PySem PySem.Spec L2
noncomputable abbrev e0 : MS := (mAsg (mCall g__law_deed (aCons (mVar 0) (aCons (mVar 1) (aCons (mBin ixD (mBin ixD (mVar 3) (mC (.str "boards"))) (mVar 4)) (aNil))))) (gVar 5))
noncomputable abbrev e1 : MS := (mIfS (tVal (mBin eqO (mCall g__law_draw (aCons (mVar 0) (aCons (mVar 1) (aCons (mC (.int 10)) (aNil))))) (mC (.int 0)))) (mAsg (mTup (aCons (mC (.str "say")) (aCons (mC (.str "hello")) (aNil)))) (gVar 5)) (mNil))
noncomputable abbrev e2 : MS := (mAsg (mCall g__law_done (aCons (mBin ixD (mBin ixD (mVar 3) (mC (.str "boards"))) (mVar 4)) (aCons (mVar 5) (aNil)))) (gVar 6))
noncomputable abbrev e3 : MS := (mAsg (mCall g__law_told (aCons (mVar 2) (aCons (mC (.str "do")) (aCons (mVar 5) (aNil))))) (gVar 7))
noncomputable abbrev e4 : MS := (mIfS (tVal (mBin (isND false) (mVar 6) (mC .non))) (mRt (mBin eqO (mVar 7) (mTup (aCons (mC (.str "refused")) (aCons (mC (.str "deed")) (aNil)))))) (mNil))
noncomputable abbrev e5 : MS := (mAsg (mApp lenD (aCons (mBin ixD (mVar 3) (mC (.str "boards"))) (aNil))) (gVar 8))
noncomputable abbrev e6 : MS := (mEx (mMeth .lst appendD (mBin ixD (mVar 3) (mC (.str "boards"))) (aCons (mVar 6) (aNil))))
noncomputable abbrev e7 : MS := (mEx (mMeth .lst appendD (mBin ixD (mVar 3) (mC (.str "parents"))) (aCons (mVar 4) (aNil))))
noncomputable abbrev e8 : MS := (mEx (mMeth .lst appendD (mBin ixD (mVar 3) (mC (.str "deeds"))) (aCons (mVar 5) (aNil))))
noncomputable abbrev e9 : MS := (mPut (mVar 8) (mVar 3) (mC (.str "here")))
noncomputable abbrev e10 : MS := (mRt (mBin eqO (mVar 7) (mVar 8)))
noncomputable abbrev doB : MS := (mSeq e0 (mSeq e1 (mSeq e2 (mSeq e3 (mSeq e4 (mSeq e5 (mSeq e6 (mSeq e7 (mSeq e8 (mSeq e9 e10))))))))))
noncomputable abbrev h2 : MS := (mAsg (mCall g__law_draw (aCons (mVar 0) (aCons (mVar 1) (aCons (mBin (addD false) (mApp lenD (aCons (mBin ixD (mVar 3) (mC (.str "boards"))) (aNil))) (mC (.int 1))) (aNil))))) (gVar 8))
noncomputable abbrev h3 : MS := (mIfS (tVal (mBin eqO (mVar 8) (mApp lenD (aCons (mBin ixD (mVar 3) (mC (.str "boards"))) (aNil))))) (mRt (mBin eqO (mCall g__law_told (aCons (mVar 2) (aCons (mC (.str "go")) (aCons (mCall g__law_pick (aCons (mVar 0) (aCons (mVar 1) (aCons (mLst false (aCons (mVar 8) (aCons (mUn negD (mC (.int 1))) (aNil)))) (aNil))))) (aNil))))) (mTup (aCons (mC (.str "refused")) (aCons (mC (.str "number")) (aNil)))))) (mNil))
noncomputable abbrev h4 : MS := (mIfS (tTru (mCall g__law_is_said (aCons (mVar 3) (aCons (mVar 4) (aCons (mVar 8) (aNil)))))) (mRt (mBin eqO (mCall g__law_told (aCons (mVar 2) (aCons (mC (.str "go")) (aCons (mVar 8) (aNil))))) (mTup (aCons (mC (.str "refused")) (aCons (mC (.str "stuck")) (aNil)))))) (mNil))
noncomputable abbrev h5 : MS := (mPut (mVar 8) (mVar 3) (mC (.str "here")))
noncomputable abbrev h6 : MS := (mRt (mBin (isND false) (mCall g__law_told (aCons (mVar 2) (aCons (mC (.str "go")) (aCons (mVar 8) (aNil))))) (mC .non)))
noncomputable abbrev goB : MS := (mSeq h2 (mSeq h3 (mSeq h4 (mSeq h5 h6))))
theorem m_turn : m__law_turn = mSeq (mAsg (mBin ixD (mVar 3) (mC (.str "here"))) (gVar 4)) (mSeq (mIfS (tVal (mBin ltD (mCall g__law_draw (aCons (mVar 0) (aCons (mVar 1) (aCons (mC (.int 5)) (aNil))))) (mC (.int 3)))) doB (mNil)) goB) := rfl

theorem I40.draw {t : Nat} {T : Tr} {bs : List Board} {ps : List (Option Nat)} {ds : List D} {h bl pl dl st : Nat} {R : Store} (I : I40 t T bs ps ds h bl pl dl st R) (t' : Nat) : I40 t' T bs ps ds h bl pl dl st R := ⟨town_own I.own t', I.c, I.ck, I.dL, I.ln, I.hh⟩
section
variable {t : Nat} {T : Tr} {bs : List Board} {ps : List (Option Nat)} {ds : List D} {h bl pl dl st : Nat} {R : Store} (I : I40 t T bs ps ds h bl pl dl st R)
include I
theorem I40.gst : (tw t :: R)[st]? = some (.dct (stF h bl pl dl)) := I.own.get (by simp)
theorem I40.gbl : (tw t :: R)[bl]? = some (.lst (encBs bs)) := I.own.get (by simp)
theorem I40.gpl : (tw t :: R)[pl]? = some (.lst (encPs ps)) := I.own.get (by simp)
theorem I40.gdl : (tw t :: R)[dl]? = some (.lst ds) := I.own.get (by simp)
theorem I40.xb : ixD (.loc st) (.str (Str.ofString "boards")) (tw t :: R) = some (.loc bl, tw t :: R) := by rw [ix_cellS I.gst, st_boards]; rfl
theorem I40.xp : ixD (.loc st) (.str (Str.ofString "parents")) (tw t :: R) = some (.loc pl, tw t :: R) := by rw [ix_cellS I.gst, st_parents]; rfl
theorem I40.xd : ixD (.loc st) (.str (Str.ofString "deeds")) (tw t :: R) = some (.loc dl, tw t :: R) := by rw [ix_cellS I.gst, st_deeds]; rfl
theorem I40.xh : ixD (.loc st) (.str (Str.ofString "here")) (tw t :: R) = some (.int h, tw t :: R) := by rw [ix_cellS I.gst, st_here]; rfl
end
theorem rd {S : Store} {T : Tr} {X : Cell} {A B C : List D} {h : Int} {bl pl dl st : Nat} (o : Own S (trCells T ++ (0, X) :: [(bl, .lst A), (pl, .lst B), (dl, .lst C), (st, .dct (stF h bl pl dl))])) :
    S[bl]? = some (.lst A) ∧ S[pl]? = some (.lst B) ∧ S[dl]? = some (.lst C) ∧ S[st]? = some (.dct (stF h bl pl dl)) ∧ ixD (.loc st) (.str (Str.ofString "boards")) S = some (.loc bl, S) ∧ ixD (.loc st) (.str (Str.ofString "parents")) S = some (.loc pl, S) ∧ ixD (.loc st) (.str (Str.ofString "deeds")) S = some (.loc dl, S) := by
  have g4 : S[st]? = some (.dct (stF h bl pl dl)) := o.get (by simp)
  exact ⟨o.get (by simp), o.get (by simp), o.get (by simp), g4, by rw [ix_cellS g4, st_boards]; rfl, by rw [ix_cellS g4, st_parents]; rfl, by rw [ix_cellS g4, st_deeds]; rfl⟩
theorem wr1 {S : Store} {T : Tr} {X c1 c2 c3 c4 : Cell} {bl pl dl st : Nat} (o : Own S (trCells T ++ (0, X) :: [(bl, c1), (pl, c2), (dl, c3), (st, c4)])) (c : Cell) : Own (S.set bl c) (trCells T ++ (0, X) :: [(bl, c), (pl, c2), (dl, c3), (st, c4)]) := by
  have h : Own S ((bl, c1) :: (trCells T ++ (0, X) :: [(pl, c2), (dl, c3), (st, c4)])) := o.perm (by (refine perm_cnt fun x => ?_; simp only [cnt_cons, cnt_app, cnt_nil, List.flatMap_append, List.flatMap_cons, List.flatMap_nil, List.map_append, List.map_cons, List.map_nil, List.cons_append, List.nil_append, List.append_assoc, List.append_nil]; try omega))
  exact (h.set c).perm (by (refine perm_cnt fun x => ?_; simp only [cnt_cons, cnt_app, cnt_nil, List.flatMap_append, List.flatMap_cons, List.flatMap_nil, List.map_append, List.map_cons, List.map_nil, List.cons_append, List.nil_append, List.append_assoc, List.append_nil]; try omega))
theorem wr2 {S : Store} {T : Tr} {X c1 c2 c3 c4 : Cell} {bl pl dl st : Nat} (o : Own S (trCells T ++ (0, X) :: [(bl, c1), (pl, c2), (dl, c3), (st, c4)])) (c : Cell) : Own (S.set pl c) (trCells T ++ (0, X) :: [(bl, c1), (pl, c), (dl, c3), (st, c4)]) := by
  have h : Own S ((pl, c2) :: (trCells T ++ (0, X) :: [(bl, c1), (dl, c3), (st, c4)])) := o.perm (by (refine perm_cnt fun x => ?_; simp only [cnt_cons, cnt_app, cnt_nil, List.flatMap_append, List.flatMap_cons, List.flatMap_nil, List.map_append, List.map_cons, List.map_nil, List.cons_append, List.nil_append, List.append_assoc, List.append_nil]; try omega))
  exact (h.set c).perm (by (refine perm_cnt fun x => ?_; simp only [cnt_cons, cnt_app, cnt_nil, List.flatMap_append, List.flatMap_cons, List.flatMap_nil, List.map_append, List.map_cons, List.map_nil, List.cons_append, List.nil_append, List.append_assoc, List.append_nil]; try omega))
theorem wr3 {S : Store} {T : Tr} {X c1 c2 c3 c4 : Cell} {bl pl dl st : Nat} (o : Own S (trCells T ++ (0, X) :: [(bl, c1), (pl, c2), (dl, c3), (st, c4)])) (c : Cell) : Own (S.set dl c) (trCells T ++ (0, X) :: [(bl, c1), (pl, c2), (dl, c), (st, c4)]) := by
  have h : Own S ((dl, c3) :: (trCells T ++ (0, X) :: [(bl, c1), (pl, c2), (st, c4)])) := o.perm (by (refine perm_cnt fun x => ?_; simp only [cnt_cons, cnt_app, cnt_nil, List.flatMap_append, List.flatMap_cons, List.flatMap_nil, List.map_append, List.map_cons, List.map_nil, List.cons_append, List.nil_append, List.append_assoc, List.append_nil]; try omega))
  exact (h.set c).perm (by (refine perm_cnt fun x => ?_; simp only [cnt_cons, cnt_app, cnt_nil, List.flatMap_append, List.flatMap_cons, List.flatMap_nil, List.map_append, List.map_cons, List.map_nil, List.cons_append, List.nil_append, List.append_assoc, List.append_nil]; try omega))
theorem wr4 {S : Store} {T : Tr} {X c1 c2 c3 c4 : Cell} {bl pl dl st : Nat} (o : Own S (trCells T ++ (0, X) :: [(bl, c1), (pl, c2), (dl, c3), (st, c4)])) (c : Cell) : Own (S.set st c) (trCells T ++ (0, X) :: [(bl, c1), (pl, c2), (dl, c3), (st, c)]) := by
  have h : Own S ((st, c4) :: (trCells T ++ (0, X) :: [(bl, c1), (pl, c2), (dl, c3)])) := o.perm (by (refine perm_cnt fun x => ?_; simp only [cnt_cons, cnt_app, cnt_nil, List.flatMap_append, List.flatMap_cons, List.flatMap_nil, List.map_append, List.map_cons, List.map_nil, List.cons_append, List.nil_append, List.append_assoc, List.append_nil]; try omega))
  exact (h.set c).perm (by (refine perm_cnt fun x => ?_; simp only [cnt_cons, cnt_app, cnt_nil, List.flatMap_append, List.flatMap_cons, List.flatMap_nil, List.map_append, List.map_cons, List.map_nil, List.cons_append, List.nil_append, List.append_assoc, List.append_nil]; try omega))
theorem do_branch (ns : List Int) {t : Nat} {T : Tr} {bs : List Board} {ps : List (Option Nat)} {ds : List D} {h bl pl dl st : Nat} {R : Store} (I : I40 t T bs ps ds h bl pl dl st R) (ht : t < 300000) (hb : bs.length < 500) : ∃ t' T' bs' ps' ds' h' R', I40 t' T' bs' ps' ds' h' bl pl dl st R' ∧ T'.n = T.n ∧ bs'.length ≤ bs.length + 1 ∧ t' ≤ t + 110 ∧
    doB [some (sc ns), some (.loc 0), some (.loc T.n), some (.loc st), some (.int (h : Int)), none, none, none, none] (tw t :: R) = .rt (.bl true) (tw t' :: R') := by
  have hl := I.lt
  have obh := I.c.board hl
  obtain ⟨d0, t1, od0, sd0, l1, l2, ed⟩ := run_deed ns R (t := t) (by omega) obh
  obtain ⟨x, x0, x1, hx⟩ := run_draw ns R (t := t1) (m := 10) (by omega) (by decide)
  have ws : wordS (Str.ofString "hello") = true := by decide +kernel
  obtain ⟨d, od, st1⟩ : ∃ d, okD d = true ∧ ∀ K : MS, mSeq e0 (mSeq e1 K) [some (sc ns), some (.loc 0), some (.loc T.n), some (.loc st), some (.int (h : Int)), none, none, none, none] (tw t :: R) = K [some (sc ns), some (.loc 0), some (.loc T.n), some (.loc st), some (.int (h : Int)), some (encD d), none, none, none] (tw (t1 + 1) :: R) := by
    by_cases h0 : x = 0
    · subst h0
      exact ⟨.say (Str.ofString "hello"), ws, fun K => by simp [-List.getD_eq_getElem?_getD, I.xb, ix_bs I.gbl hl, ed, hx, encD]⟩
    · exact ⟨d0, od0, fun K => by simp [-List.getD_eq_getElem?_getD, I.xb, ix_bs I.gbl hl, ed, hx, h0]⟩
  have J := I.draw (t1 + 1)
  have dn := run_doneS (bs.getD h []) d (tw (t1 + 1) :: R) obh od
  have st2 : ∀ K : MS, mSeq e2 K [some (sc ns), some (.loc 0), some (.loc T.n), some (.loc st), some (.int (h : Int)), some (encD d), none, none, none] (tw (t1 + 1) :: R) = K [some (sc ns), some (.loc 0), some (.loc T.n), some (.loc st), some (.int (h : Int)), some (encD d), some (encOB (lawDone (bs.getD h []) d)), none, none] (tw (t1 + 1) :: R) := fun K => by
    simp [-List.getD_eq_getElem?_getD, J.xb, ix_bs J.gbl hl, dn]
  unfold doB
  rw [st1, st2]
  obtain ⟨h', eh, _, hs⟩ := I.c.here
  have : h' = h := by have := I.hh; omega
  subst this
  cases hd : lawDone (bs.getD h' []) d with
  | none =>
    have hp : progDone T.board d = none := by
      have := law_prog_sim (SimB.symm hs) obh I.c.ob d
      exact this.of_none hd
    have tb := told_doX (c := "BadDeed") J.own.tok (run_Tdo_bad J.own.tok J.c.ob od hp) tag_deed
    refine ⟨t1 + 1, T, bs, ps, ds, h', R, J, rfl, by omega, by omega, ?_⟩
    have e := eq_ref (tw (t1 + 1) :: R) "deed" "deed"
    simp [encOB, tb]
  | some b1 =>
    obtain ⟨S4, b4, l4, c4, r4, own4, _, cp4⟩ := coup_do J.own J.c (by omega) eh od hd
    obtain ⟨R4, rfl⟩ := town_at own4
    have tb := told_do J.own.tok r4
    have ck4 := kids_do (b' := b4) (b1 := b1) (d := d) (l := l4) (c' := c4) J.c J.ck eh hl
    have dl4 := doT_dL J.c J.dL J.ln cp4
    obtain ⟨g1, g2, g3, g4, xb, xp, xd⟩ := rd own4
    have hlen := len_bs g1
    have st5 : ∀ K : MS, mSeq e3 (mSeq e4 (mSeq e5 K)) [some (sc ns), some (.loc 0), some (.loc T.n), some (.loc st), some (.int (h' : Int)), some (encD d), some (encOB (some b1)), none, none] (tw (t1 + 1) :: R) = K [some (sc ns), some (.loc 0), some (.loc T.n), some (.loc st), some (.int (h' : Int)), some (encD d), some (.dct (encB b1)), some (.int bs.length), some (.int bs.length)] (tw (t1 + 1) :: R4) := fun K => by
      simp [encOB, tb, xb, hlen]
    rw [st5]
    have lp := J.c.lp
    have ld := J.ln
    have k1 := isK_lst g1
    have a1 := append_at g1 (by unfold encBs; rw [List.length_map]; omega) (.dct (encB b1))
    rw [← encBs_app] at a1
    have own5 := wr1 own4 (.lst (encBs (bs ++ [b1])))
    generalize hS5 : (tw (t1 + 1) :: R4).set bl (.lst (encBs (bs ++ [b1]))) = S5 at own5 a1
    obtain ⟨_, f2, f3, f4, yb, yp, yd⟩ := rd own5
    have k2 := isK_lst f2
    have a2 := append_at f2 (by unfold encPs; rw [List.length_map]; omega) (.int h')
    rw [← encPs_app] at a2
    have own6 := wr2 own5 (.lst (encPs (ps ++ [some h'])))
    generalize hS6 : S5.set pl (.lst (encPs (ps ++ [some h']))) = S6 at own6 a2
    obtain ⟨_, _, m3, m4, zb, zp, zd⟩ := rd own6
    have k3 := isK_lst m3
    have a3 := append_at m3 (by omega) (encD d)
    have own7 := wr3 own6 (.lst (ds ++ [encD d]))
    generalize hS7 : S6.set dl (.lst (ds ++ [encD d])) = S7 at own7 a3
    obtain ⟨_, _, _, q4, _⟩ := rd own7
    have ck7 := cellK_at q4
    have pf := stF_put h' bs.length bl pl dl
    have own8 := wr4 own7 (.dct (stF (bs.length : Int) bl pl dl))
    obtain ⟨R8, hR8⟩ := town_at own8
    rw [hR8] at own8
    refine ⟨t1 + 1, doT T b4 d l4 c4, bs ++ [b1], ps ++ [some h'], ds ++ [encD d], bs.length, R8, ⟨own8, cp4, ck4, dl4, by rw [List.length_append, List.length_append, J.ln]; rfl, ?_⟩, rfl, by simp, by omega, ?_⟩
    · show T.last + 1 = _
      have := J.c.last
      omega
    · have hsl : (stF (h' : Int) bl pl dl).length < 1000000 := by show 4 < 1000000; decide
      have eqi : eqTop (tw (t1 + 1) :: R8) (.int bs.length) (.int bs.length) = some true := by
        show some (decide ((bs.length : Int) = bs.length)) = _
        simp
      simp [k1, xb, a1, yp, k2, a2, zd, k3, a3, ck7, keyD, hsl, pf, hR8, eqi]
theorem split_uniq {T : Tr} {i j : Int} {l r l' r' : List Int} {b b' : Int} (s1 : Split T i j l b r) (s2 : Split T i j l' b' r') : l = l' ∧ r = r' := by
  obtain ⟨_, a1, a2⟩ := split_filter s1
  obtain ⟨_, b1, b2⟩ := split_filter s2
  exact ⟨a1.symm.trans b1, a2.symm.trans b2⟩
theorem go_branch (ns : List Int) {t : Nat} {T : Tr} {bs : List Board} {ps : List (Option Nat)} {ds : List D} {h bl pl dl st : Nat} {R : Store} (I : I40 t T bs ps ds h bl pl dl st R) (ht : t < 300000) (hb : bs.length < 500) : ∃ t' T' bs' ps' ds' h' R', I40 t' T' bs' ps' ds' h' bl pl dl st R' ∧ T'.n = T.n ∧ bs'.length ≤ bs.length + 1 ∧ t' ≤ t + 10 ∧
    goB [some (sc ns), some (.loc 0), some (.loc T.n), some (.loc st), some (.int (h : Int)), none, none, none, none] (tw t :: R) = .rt (.bl true) (tw t' :: R') := by
  have hl := I.lt
  obtain ⟨j', j0, j1, hj⟩ := run_draw ns R (t := t) (m := (bs.length : Int) + 1) (by omega) (by omega)
  obtain ⟨j, rfl⟩ : ∃ j : Nat, j' = (j : Int) := ⟨j'.toNat, by omega⟩
  have hlen := len_bs I.gbl
  have J := I.draw (t + 1)
  have hlen1 := len_bs J.gbl
  have st2 : ∀ K : MS, mSeq h2 K [some (sc ns), some (.loc 0), some (.loc T.n), some (.loc st), some (.int (h : Int)), none, none, none, none] (tw t :: R) = K [some (sc ns), some (.loc 0), some (.loc T.n), some (.loc st), some (.int (h : Int)), none, none, none, some (.int (j : Int))] (tw (t + 1) :: R) := fun K => by
    simp [I.xb, hlen, hj]
  have eqi : ∀ (S : Store) (a b : Int), eqTop S (.int a) (.int b) = some (decide (a = b)) := fun S a b => rfl
  unfold goB
  rw [st2]
  by_cases hjn : j = bs.length
  · obtain ⟨z, hz, ez⟩ := run_pick ns R (t := t + 1) (ds := [.int (j : Int), .int (-1)]) (by omega) (by simp) (fun d hd n zz => by
      subst zz
      simp at hd)
    obtain ⟨bad, rfl, hbad⟩ : ∃ bad : Int, z = .int bad ∧ T.nd bad = none := by
      have nn : ∀ i : Int, ¬ (0 ≤ i ∧ i < bs.length) → T.nd i = none := fun i hi => by
        cases hx : T.nd i with
        | none => rfl
        | some x => exact absurd (J.c.nd_iff.mp (by rw [hx]; rfl)) hi
      simp only [List.mem_cons, List.not_mem_nil, or_false] at hz
      rcases hz with rfl | rfl
      · exact ⟨j, rfl, nn _ (by omega)⟩
      · exact ⟨-1, rfl, nn _ (by omega)⟩
    have K2 := I.draw (t + 1 + 1)
    have hd0 := (K2.c.nd_iff (i := (h : Int))).mpr ⟨by omega, by omega⟩
    have p2 := run_path_bad2 K2.own.tok K2.c.wf hd0 (by omega) hbad
    rw [← K2.hh] at p2
    have tg := told_goX (c := "BadNumber") K2.own.tok (run_goX K2.own.tok (run_between_bad K2.own.tok p2)) tag_number
    refine ⟨t + 1 + 1, T, bs, ps, ds, h, R, K2, rfl, by omega, by omega, ?_⟩
    simp [J.xb, hlen1, eqi, hjn] at *
    simp [J.xb, hlen1, eqi, ez, tg]
  · have hjl : j < bs.length := by omega
    have st3 : ∀ K : MS, mSeq h3 K [some (sc ns), some (.loc 0), some (.loc T.n), some (.loc st), some (.int (h : Int)), none, none, none, some (.int (j : Int))] (tw (t + 1) :: R) = K [some (sc ns), some (.loc 0), some (.loc T.n), some (.loc st), some (.int (h : Int)), none, none, none, some (.int (j : Int))] (tw (t + 1) :: R) := fun K => by
      have hjn' : ¬ (j : Int) = (bs.length : Int) := by omega
      simp [J.xb, hlen1, eqi, hjn']
    rw [st3]
    obtain ⟨l, b, r, sp, hstuck, _⟩ := coup_go J.own J.c (by omega) J.hh hjl
    obtain ⟨q, eq, hq⟩ := run_said J.c (by omega) J.gst J.gpl J.gdl J.dL hl hjl sp
    cases q with
    | true =>
      have tg := told_goX (c := "Stuck") J.own.tok (hstuck (hq.mp rfl)) tag_stuck
      refine ⟨t + 1, T, bs, ps, ds, h, R, J, rfl, by omega, by omega, ?_⟩
      simp [eq, truD, tg]
    | false =>
      have hns : ¬ saidT T l r := fun z => by have := hq.mpr z; cases this
      have own2 := wr4 J.own (.dct (stF (j : Int) bl pl dl))
      obtain ⟨R2, hR2⟩ := town_at own2
      rw [hR2] at own2
      obtain ⟨l', b', r', sp', _, hgo⟩ := coup_go own2 J.c (by omega) J.hh hjl
      obtain ⟨rfl, rfl⟩ := split_uniq sp sp'
      obtain ⟨S3, b3, e3, own3, _, c3⟩ := hgo hns
      obtain ⟨R3, rfl⟩ := town_at own3
      have tg := told_go own2.tok e3
      have ck := cellK_at J.gst
      have pf := stF_put h j bl pl dl
      have hsl : (stF (h : Int) bl pl dl).length < 1000000 := by show 4 < 1000000; decide
      refine ⟨t + 1, { T with board := b3, here := (j : Int) }, bs, ps, ds, j, R3, ⟨own3, c3, J.ck, ⟨fun i p hp => J.dL.at_ i p hp⟩, J.ln, rfl⟩, rfl, by omega, by omega, ?_⟩
      simp [eq, truD, ck, keyD, hsl, pf, hR2, tg]
theorem turn40 (ns : List Int) {t : Nat} {T : Tr} {bs : List Board} {ps : List (Option Nat)} {ds : List D} {h bl pl dl st : Nat} {R : Store} (I : I40 t T bs ps ds h bl pl dl st R) (ht : t < 290000) (hb : bs.length < 500) : ∃ t' T' bs' ps' ds' h' R', I40 t' T' bs' ps' ds' h' bl pl dl st R' ∧ T'.n = T.n ∧ bs'.length ≤ bs.length + 1 ∧ t' ≤ t + 120 ∧
    g__law_turn [sc ns, .loc 0, .loc T.n, .loc st] (tw t :: R) = .ok (.bl true) (tw t' :: R') := by
  obtain ⟨x, x0, x1, hx⟩ := run_draw ns R (t := t) (m := 5) (by omega) (by decide)
  have J := I.draw (t + 1)
  rw [call__law_turn, m_turn]
  by_cases h3 : x < 3
  · obtain ⟨t', T', bs', ps', ds', h', R', I', hT, hl, ht', e⟩ := do_branch ns J (by omega) hb
    refine ⟨t', T', bs', ps', ds', h', R', I', hT, hl, by omega, ?_⟩
    generalize doB = B at e ⊢
    generalize goB = G
    simp [I.xh, hx, h3, e]
  · obtain ⟨t', T', bs', ps', ds', h', R', I', hT, hl, ht', e⟩ := go_branch ns J (by omega) hb
    refine ⟨t', T', bs', ps', ds', h', R', I', hT, hl, by omega, ?_⟩
    generalize doB = B
    generalize goB = G at e ⊢
    simp [I.xh, hx, h3, e]
end Dee

set_option maxRecDepth 100000
set_option maxHeartbeats 4000000
namespace Dee
open PySem PySem.Spec L2
noncomputable abbrev n0 : MS := (mAsg (mLc false (iRng (mVar 2)) [9] (TgS.g (.one 9)) (tVal (mBin eqO (mBin ixD (mBin ixD (mVar 1) (mC (.str "parents"))) (mVar 9)) (mVar 4))) (mVar 9)) (gVar 5))
noncomputable abbrev n1 : MS := (mIfS (tOrD (tVal (mBin neO (mMth "Tree" "parent" g_Tree_parent (mVar 0) (aCons (mVar 4) (aNil))) (mBin ixD (mBin ixD (mVar 1) (mC (.str "parents"))) (mVar 4)))) (tVal (mBin neO (mMth "Tree" "children" g_Tree_childrenC (mVar 0) (aCons (mVar 4) (aNil))) (mVar 5)))) (mRt (mC (.bl false))) (mNil))
noncomputable abbrev n2 : MS := (mAsg (mCall g__law_told (aCons (mVar 0) (aCons (mC (.str "between")) (aCons (mVar 4) (aNil))))) (gVar 6))
noncomputable abbrev n3 : MS := (mIfS (tTru (mCall g__law_is_said (aCons (mVar 1) (aCons (mC (.int 0)) (aCons (mVar 4) (aNil)))))) (mIfS (tVal (mBin neO (mVar 6) (mTup (aCons (mC (.str "refused")) (aCons (mC (.str "stuck")) (aNil)))))) (mRt (mC (.bl false))) (mNil)) (mSeq (mAsg (mBin ixD (mBin ixD (mVar 1) (mC (.str "boards"))) (mC (.int 0))) (gVar 7)) (mSeq (mFor (iAt (mVar 6)) (gVar 8) (mAsg (mCall g__law_done (aCons (mVar 7) (aCons (mVar 8) (aNil)))) (gVar 7))) (mIfS (tVal (mBin neO (mVar 7) (mBin ixD (mBin ixD (mVar 1) (mC (.str "boards"))) (mVar 4)))) (mRt (mC (.bl false))) (mNil)))))
noncomputable abbrev nBody : MS := (mSeq n0 (mSeq n1 (mSeq n2 n3)))
theorem m_nodes : m__law_nodes = mSeq (mAsg (mLc false (iRng (mVar 2)) [4] (TgS.g (.one 4)) (tVal (mBin (inD true) (mVar 4) (mBin ixD (mVar 1) (mC (.str "parents"))))) (mVar 4)) (gVar 3)) (mSeq (mIfS (tOrD (tVal (mBin neO (mMth "Tree" "many" g_Tree_many (mVar 0) aNil) (mVar 2))) (tVal (mBin neO (mMth "Tree" "tips" g_Tree_tips (mVar 0) aNil) (mVar 3)))) (mRt (mC (.bl false))) (mNil)) (mSeq (mFor (iRng (mVar 2)) (gVar 4) nBody) (mRt (mC (.bl true))))) := rfl

theorem mLc_rng {mi : MI} {v : Nat} {t : MT} {me : ME} {δ : Dn} {S : Store} {n : Nat} {p : Nat → Bool} (hi : mi δ S = .ok (.rng 0 n) S) (hl : n ≤ 1000000)
    (he : ∀ x, x < n → ∃ δ', (TgS.one v).g (.int (0 + (x : Int))) (wipeD δ [v]) S = some δ' ∧ t δ' S = .ok (p x) S ∧ (p x = true → me δ' S = .ok (.int (x : Int)) S)) : mLc false mi [v] (TgS.one v).g t me δ S = .ok (.lst (((List.range n).filter p).map fun (x : Nat) => D.int (x : Int))) S := by
  unfold mLc
  have hn : ∀ j, nxtD S j (.rng 0 n) = some (((List.range n).map fun (x : Nat) => D.int (0 + (x : Int)))[j]?) := fun j => by
    rw [List.getElem?_map]
    by_cases h : j < n
    · rw [List.getElem?_eq_getElem (by rw [List.length_range]; exact h), List.getElem_range]
      simp [nxtD, h]
    · rw [List.getElem?_eq_none (by rw [List.length_range]; omega)]
      simp [nxtD, h]
  have hc : cntD S (.rng 0 n) = n + 1 := rfl
  rw [hi, bind_ok, hc, lcN_map (l := List.range n) (g := fun (x : Nat) => D.int (0 + (x : Int))) (h := fun (x : Nat) => D.int (x : Int)) (p := p) hn (fun x hx => he x (List.mem_range.mp hx)) _ 0 [] (by rw [List.length_range]; omega) (by omega) (by simpa using hl)]
  rfl
def tipsL (ps : List (Option Nat)) (n : Nat) : List D := ((List.range n).filter fun i => !decide (some i ∈ ps)).map fun (x : Nat) => D.int (x : Int)
theorem anyEq_encPs (S : Store) (i : Nat) (ps : List (Option Nat)) : anyEq S (.int i) (encPs ps) = some (decide (some i ∈ ps)) := by
  induction ps with
  | nil => rfl
  | cons o ps ih =>
    show (match eqD S 20 (encI (o.map Int.ofNat)) (.int i), anyEq S (.int i) (encPs ps) with
      | some a, some b => some (a || b)
      | _, _ => none) = _
    rw [ih]
    cases o with
    | none =>
      show some (false || decide (some i ∈ ps)) = _
      simp
    | some p =>
      show some (decide ((p : Int) = i) || decide (some i ∈ ps)) = _
      congr 1
      by_cases h : p = i
      · subst h; simp
      · have h1 : ¬ (p : Int) = i := by omega
        have h2 : ¬ i = p := fun z => h z.symm
        simp [h1, h2]
theorem inPs {S : Store} {pl : Nat} {ps : List (Option Nat)} (h : S[pl]? = some (.lst (encPs ps))) (i : Nat) (b : Bool) : inD b (.int i) (.loc pl) S = some (.bl (b != decide (some i ∈ ps)), S) := by
  show (match asL S (.loc pl) with
    | some ds => (anyEq S (.int i) ds).map fun r => (D.bl (b != r), S)
    | none => _) = _
  rw [asL_at h]
  show (anyEq S (.int i) (encPs ps)).map _ = _
  rw [anyEq_encPs]; rfl
theorem kids_nil {ps : List (Option Nat)} {n i : Nat} (h : ps.length = n) : kidsL ps n i = [] ↔ some i ∉ ps := by
  unfold kidsL
  rw [List.map_eq_nil_iff, List.filter_eq_nil_iff]
  constructor
  · intro hh hm
    obtain ⟨k, hk⟩ := List.getElem?_of_mem hm
    have hl := (List.getElem?_eq_some_iff.mp hk).1
    have := hh k (List.mem_range.mpr (by omega))
    rw [List.getD_eq_getElem?_getD, hk] at this
    simp at this
  · intro hh k hk
    have hl : k < ps.length := by rw [h]; exact List.mem_range.mp hk
    simp only [decide_eq_true_eq]
    intro e
    refine hh ?_
    rw [← e]
    exact getD_mem hl none
theorem tips_eq {T : Tr} {bs : List Board} {ps : List (Option Nat)} (c : Coup T bs ps) (ck : CoupK T bs ps) : (((List.range bs.length).filter fun i => ((T.nodes[i]?).map (·.kids)).getD [] = []).map fun i => D.int (Int.ofNat i)) = tipsL ps bs.length := by
  unfold tipsL
  congr 1
  refine List.filter_congr fun i hi => ?_
  obtain ⟨x, h1, _⟩ := c.nd_lt (List.mem_range.mp hi)
  rw [h1]
  show decide (x.kids = []) = _
  rw [ck i x h1]
  have := kids_nil (i := i) c.lp
  by_cases h : some i ∈ ps
  · rw [decide_eq_true h, decide_eq_false (fun z => this.mp z h)]; rfl
  · rw [decide_eq_false h, decide_eq_true (this.mpr h)]; rfl
theorem eqD_lstI (S : Store) (l : List D) (h : ∀ x ∈ l, ∃ i, x = .int i) : eqTop S (.lst l) (.lst l) = some true := by
  unfold eqTop
  rw [eqD_lst S 19 _ fun x hx => by obtain ⟨i, rfl⟩ := h x hx; exact eqD_int S 18 i]
theorem eqTop_loc {S : Store} {n : Nat} {l : List D} (h : S[n]? = some (.lst l)) (hh : ∀ x ∈ l, ∃ i, x = .int i) : eqTop S (.loc n) (.lst l) = some true := by
  have e : eqD S 20 (.loc n) (.lst l) = some true := by
    show (match asL S (.loc n), (some l : Option (List D)) with
      | some xs, some ys => if xs.length = ys.length then eqZ (eqD S 19) xs ys else some false
      | some _, none => _
      | none, some _ => _
      | none, none => _) = _
    rw [asL_at h]
    show (if l.length = l.length then eqZ (eqD S 19) l l else some false) = _
    rw [if_pos rfl, eqZ_same fun x hx => by obtain ⟨i, rfl⟩ := hh x hx; exact eqD_int S 18 i]
  unfold eqTop
  rw [e]
structure Rd40 (S : Store) (T : Tr) (bs : List Board) (ps : List (Option Nat)) (ds : List D) (h bl pl dl st : Nat) : Prop where
  k : TOk S T
  c : Coup T bs ps
  ck : CoupK T bs ps
  dL : DeedL T ds
  gb : S[bl]? = some (.lst (encBs bs))
  gp : S[pl]? = some (.lst (encPs ps))
  gd : S[dl]? = some (.lst ds)
  gs : S[st]? = some (.dct (stF h bl pl dl))
theorem Rd40.grow {S : Store} {T : Tr} {bs : List Board} {ps : List (Option Nat)} {ds : List D} {h bl pl dl st : Nat} (I : Rd40 S T bs ps ds h bl pl dl st) (G : Store) : Rd40 (S ++ G) T bs ps ds h bl pl dl st := ⟨I.k.grow G, I.c, I.ck, I.dL, get_grow I.gb, get_grow I.gp, get_grow I.gd, get_grow I.gs⟩
theorem node40 {S : Store} {T : Tr} {bs : List Board} {ps : List (Option Nat)} {ds : List D} {h bl pl dl st : Nat} (I : Rd40 S T bs ps ds h bl pl dl st) (hb : bs.length ≤ 400000) {i : Nat} (hi : i < bs.length) (x3 x5 x6 x7 x8 : Option D) :
    ∃ y6 y7 y8, nBody [some (.loc T.n), some (.loc st), some (.int bs.length), x3, some (.int (i : Int)), x5, x6, x7, x8, none] S = .nx [some (.loc T.n), some (.loc st), some (.int bs.length), x3, some (.int (i : Int)), some (.lst ((kidsL ps bs.length i).map .int)), y6, y7, y8, none] (S ++ [.lst ((kidsL ps bs.length i).map .int)]) := by
  have xp : ixD (.loc st) (.str (Str.ofString "parents")) S = some (.loc pl, S) := by rw [ix_cellS I.gs, st_parents]; rfl
  have hpk : ∀ k : Nat, k < bs.length → ixD (.loc pl) (.int (k : Int)) S = some (encI ((ps.getD k none).map Int.ofNat), S) := fun k hk => by
    rw [ix_cellL I.gp, (par_at I.c hk).2, (par_at I.c hk).1]; rfl
  have eqp : ∀ (S : Store) (o : Option Nat) (j : Nat), eqTop S (encI (o.map Int.ofNat)) (.int (j : Int)) = some (decide (o = some j)) := fun S o j => by
    cases o with
    | none =>
      show some false = _
      simp
    | some p =>
      show some (decide ((p : Int) = j)) = _
      congr 1
      by_cases hh : p = j
      · subst hh; simp
      · have h1 : ¬ (p : Int) = j := by omega
        simp [h1, hh]
  have g0 := mLc_rng (mi := iRng (mVar 2)) (v := 9) (t := tVal (mBin eqO (mBin ixD (mBin ixD (mVar 1) (mC (.str "parents"))) (mVar 9)) (mVar 4))) (me := mVar 9) (δ := [some (.loc T.n), some (.loc st), some (.int bs.length), x3, some (.int (i : Int)), x5, x6, x7, x8, none]) (S := S) (n := bs.length) (p := fun k => decide (ps.getD k none = some i))
    (by
      have h1 : -1000000000 ≤ (bs.length : Int) := by omega
      have h2 : (bs.length : Int) < 1000000000 := by omega
      simp [h1, h2]) (by omega) (by
      intro k hk
      have e1 := hpk k hk
      refine ⟨_, rfl, ?_, fun _ => by simp [wipeD]⟩
      simp only [Int.zero_add]
      simp [-List.getD_eq_getElem?_getD, wipeD, xp, e1, eqp])
  have kk : (((List.range bs.length).filter fun k => decide (ps.getD k none = some i)).map fun (x : Nat) => D.int (x : Int)) = (kidsL ps bs.length i).map .int := by
    unfold kidsL; rw [List.map_map]; rfl
  rw [kk] at g0
  have st0 : ∀ K : MS, mSeq n0 K [some (.loc T.n), some (.loc st), some (.int bs.length), x3, some (.int (i : Int)), x5, x6, x7, x8, none] S = K [some (.loc T.n), some (.loc st), some (.int bs.length), x3, some (.int (i : Int)), some (.lst ((kidsL ps bs.length i).map .int)), x6, x7, x8, none] S := fun K => by
    generalize (kidsL ps bs.length i).map D.int = kl at g0 ⊢
    simp [g0]
  obtain ⟨x, hx1, hx2⟩ := I.c.nd_lt hi
  have tp := run_parent I.k I.c hi
  have tc := run_childrenC I.k I.c hx1
  rw [I.ck i x hx1] at tc
  have e1 := hpk i hi
  rw [← (par_at I.c hi).1] at e1
  have eqpar : eqTop S (encI (T.par (i : Int))) (encI (T.par (i : Int))) = some true := by
    cases T.par (i : Int) with
    | none => rfl
    | some p => show some (decide (p = p)) = _; simp
  have J := I.grow [.lst ((kidsL ps bs.length i).map .int)]
  have eqc := eqTop_loc (S := S ++ [.lst ((kidsL ps bs.length i).map .int)]) (n := S.length) List.getElem?_concat_length (fun y hy => by obtain ⟨z, _, rfl⟩ := List.mem_map.mp hy; exact ⟨z, rfl⟩)
  have ins := I.k.ins
  have st1 : ∀ K : MS, mSeq n1 K [some (.loc T.n), some (.loc st), some (.int bs.length), x3, some (.int (i : Int)), some (.lst ((kidsL ps bs.length i).map .int)), x6, x7, x8, none] S = K [some (.loc T.n), some (.loc st), some (.int bs.length), x3, some (.int (i : Int)), some (.lst ((kidsL ps bs.length i).map .int)), x6, x7, x8, none] (S ++ [.lst ((kidsL ps bs.length i).map .int)]) := fun K => by
    generalize (kidsL ps bs.length i).map D.int = kl at *
    simp [ins, tp, xp, e1, eqpar, tc, eqc]
  generalize hS1 : S ++ [Cell.lst ((kidsL ps bs.length i).map .int)] = S1 at *
  obtain ⟨l, b, r, sp, _, fs, fn⟩ := coup_between J.k J.c hb (i := 0) I.c.pos hi
  obtain ⟨q, eq, hq⟩ := run_said J.c hb J.gs J.gp J.gd J.dL (i := 0) I.c.pos hi sp
  have z0 : ((0 : Nat) : Int) = 0 := rfl
  rw [z0] at fs fn eq
  unfold nBody
  cases q with
  | true =>
    have tg := told_betweenX (c := "Stuck") J.k (fs (hq.mp rfl)) tag_stuck
    refine ⟨some (refD "stuck"), x7, x8, ?_⟩
    rw [st0, st1]
    generalize (kidsL ps bs.length i).map D.int = kl at *
    simp [tg, eq, truD]
  | false =>
    have hns : ¬ saidT T l r := fun z => by have := hq.mpr z; cases this
    obtain ⟨dds, g1, od, _, hall⟩ := fn hns
    have tg := told_between J.k g1
    have ob0 := J.c.board J.c.pos
    have obi := J.c.board hi
    obtain ⟨e', p1, p2, _⟩ := hall (bs.getD 0 []) (SimB.refl _) ob0
    obtain ⟨c', q1, q2, oc'⟩ := law_all_sim (SimB.refl _) ob0 ob0 (fun d hd => (od d hd).1) p1
    have qe := eq_sim (S := S1) (q2.trans p2) oc' obi
    have xb : ixD (.loc st) (.str (Str.ofString "boards")) S1 = some (.loc bl, S1) := by rw [ix_cellS J.gs, st_boards]; rfl
    have b0 := ix_bs J.gb J.c.pos
    rw [z0] at b0
    have bi := ix_bs J.gb hi
    obtain ⟨δ', S', e6, cz, y8, hc2, oc2, rfl, rfl⟩ := forN_list (it := .at_ (.lst (dds.map encD))) (g := gVar 8) (b := mAsg (mCall g__law_done (aCons (mVar 7) (aCons (mVar 8) (aNil)))) (gVar 7)) (l := dds) (f := encD)
      (fun q δ S' => ∃ c2 y8, lawAll c2 (dds.drop q) = some c' ∧ okB c2 ∧ δ = [some (.loc T.n), some (.loc st), some (.int bs.length), x3, some (.int (i : Int)), some (.lst ((kidsL ps bs.length i).map .int)), some (.lst (dds.map encD)), some (.dct (encB c2)), y8, none] ∧ S' = S1)
      (fun _ _ _ _ => rfl) (by
        rintro q d δ S2 hq ⟨c2, y8, hc2, oc2, rfl, rfl⟩
        have hlt : q < dds.length := by
          by_cases h : q < dds.length
          · exact h
          · rw [List.getElem?_eq_none (by omega)] at hq; cases hq
        have hd : dds.drop q = d :: dds.drop (q + 1) := by
          rw [List.drop_eq_getElem_cons hlt]
          rw [List.getElem?_eq_getElem hlt] at hq
          cases hq; rfl
        have hm : d ∈ dds := List.mem_of_getElem? hq
        rw [hd] at hc2
        obtain ⟨c3, hp, hc3⟩ := Option.bind_eq_some_iff.mp hc2
        have oc3 := okB_law oc2 (od d hm).1 hp
        have b3 := run_done c2 d S2 (okB_small oc2) (od d hm).1 (od d hm).2
        rw [hp] at b3
        exact ⟨_, rfl, _, _, by simp [b3, encOB]; rfl, c3, _, hc3, oc3, rfl, rfl⟩) dds.length 0 [some (.loc T.n), some (.loc st), some (.int bs.length), x3, some (.int (i : Int)), some (.lst ((kidsL ps bs.length i).map .int)), some (.lst (dds.map encD)), some (.dct (encB (bs.getD 0 []))), x8, none] S1 (by omega) ⟨_, _, q1, ob0, rfl, rfl⟩
    rw [List.drop_length] at hc2
    have hcc : cz = c' := Option.some.inj hc2
    rw [hcc] at e6
    have hcn : cntD S' (.at_ (.lst (dds.map encD))) = dds.length + 1 := by
      show (dds.map encD).length + 1 = _
      rw [List.length_map]
    refine ⟨some (.lst (dds.map encD)), some (.dct (encB c')), y8, ?_⟩
    rw [st0, st1]
    generalize (kidsL ps bs.length i).map D.int = kl at *
    simp [-List.getD_eq_getElem?_getD, tg, eq, truD, xb, b0, bi, hcn, e6, qe]
end Dee

set_option maxRecDepth 100000
set_option maxHeartbeats 4000000
namespace Dee
open PySem PySem.Spec L2
theorem run_nodes {S : Store} {T : Tr} {bs : List Board} {ps : List (Option Nat)} {ds : List D} {h bl pl dl st : Nat} (I : Rd40 S T bs ps ds h bl pl dl st) (hb : bs.length < 64) : g__law_nodes [.loc T.n, .loc st, .int bs.length] S = .ok (.bl true) S := by
  rw [call__law_nodes, m_nodes]
  have xp : ixD (.loc st) (.str (Str.ofString "parents")) S = some (.loc pl, S) := by rw [ix_cellS I.gs, st_parents]; rfl
  have h1 : -1000000000 ≤ (bs.length : Int) := by omega
  have h2 : (bs.length : Int) < 1000000000 := by omega
  have g0 := mLc_rng (mi := iRng (mVar 2)) (v := 4) (t := tVal (mBin (inD true) (mVar 4) (mBin ixD (mVar 1) (mC (.str "parents"))))) (me := mVar 4) (δ := [some (.loc T.n), some (.loc st), some (.int bs.length), none, none, none, none, none, none, none]) (S := S) (n := bs.length) (p := fun i => !decide (some i ∈ ps))
    (by simp [h1, h2]) (by omega) (by
      intro k hk
      have e1 := inPs I.gp k true
      refine ⟨_, rfl, ?_, fun _ => by simp [wipeD]⟩
      simp only [Int.zero_add]
      simp [wipeD, xp, e1])
  have tm := run_many I.k I.c
  have tt := run_tips I.k I.c hb
  rw [tips_eq I.c I.ck] at tt
  have g0' : mLc false (iRng (mVar 2)) [4] (TgS.one 4).g (tVal (mBin (inD true) (mVar 4) (mBin ixD (mVar 1) (mC (.str "parents"))))) (mVar 4) [some (.loc T.n), some (.loc st), some (.int bs.length), none, none, none, none, none, none, none] S = .ok (.lst (tipsL ps bs.length)) S := g0
  have eqt := eqD_lstI S (tipsL ps bs.length) (fun x hx => by unfold tipsL at hx; obtain ⟨y, _, rfl⟩ := List.mem_map.mp hx; exact ⟨y, rfl⟩)
  have eqm : eqTop S (.int bs.length) (.int bs.length) = some true := by
    show some (decide ((bs.length : Int) = bs.length)) = _
    simp
  have ins := I.k.ins
  obtain ⟨δ', S', e, G, x4, x5, x6, x7, x8, rfl, rfl⟩ := forN_rng (g := gVar 4) (b := nBody) (lo := 0) (n := bs.length)
    (fun i δ S' => ∃ G x4 x5 x6 x7 x8, δ = [some (.loc T.n), some (.loc st), some (.int bs.length), some (.lst (tipsL ps bs.length)), x4, x5, x6, x7, x8, none] ∧ S' = S ++ G) (by
      rintro i δ S' hi ⟨G, x4, x5, x6, x7, x8, rfl, rfl⟩
      obtain ⟨y6, y7, y8, en⟩ := node40 (I.grow G) (by omega) hi (some (.lst (tipsL ps bs.length))) x5 x6 x7 x8
      rw [show (i : Int) = 0 + (i : Int) by omega] at en
      exact ⟨_, rfl, _, _, en, G ++ [.lst ((kidsL ps bs.length i).map .int)], _, _, _, _, _, rfl, by rw [List.append_assoc]⟩) bs.length 0 [some (.loc T.n), some (.loc st), some (.int bs.length), some (.lst (tipsL ps bs.length)), none, none, none, none, none, none] S (by omega) ⟨[], none, none, none, none, none, rfl, by simp⟩
  have hg := gc_app (S := S) (G := G) (d := .bl true) rfl
  generalize nBody = B at e ⊢
  generalize tipsL ps bs.length = TL at *
  simp [g0', ins, tm, tt, eqt, eqm, h1, h2, cntD, e, hg]
noncomputable abbrev w0 : MS := (mIfS (tNotD (tTru (mCall g__law_turn (aCons (mVar 0) (aCons (mVar 1) (aCons (mVar 3) (aCons (mVar 4) (aNil)))))))) (mRt (mC (.bl false))) (mNil))
noncomputable abbrev w1 : MS := (mIfS (tOrD (tVal (mBin neO (mMth "Tree" "at" g_Tree_at (mVar 3) aNil) (mBin ixD (mVar 4) (mC (.str "here"))))) (tVal (mBin neO (mMth "Tree" "board" g_Tree_boardC (mVar 3) aNil) (mBin ixD (mBin ixD (mVar 4) (mC (.str "boards"))) (mBin ixD (mVar 4) (mC (.str "here"))))))) (mRt (mC (.bl false))) (mNil))
noncomputable abbrev wBody : MS := (mSeq w0 w1)
noncomputable abbrev tail40 : MS := (mSeq (mAsg (mApp lenD (aCons (mBin ixD (mVar 4) (mC (.str "boards"))) (aNil))) (gVar 6)) (mSeq (mIfS (tNotD (tTru (mCall g__law_nodes (aCons (mVar 3) (aCons (mVar 4) (aCons (mVar 6) (aNil))))))) (mRt (mC (.bl false))) (mNil)) (mSeq (mAsg (mMth "Tree" "board" g_Tree_boardC (mVar 3) aNil) (gVar 7)) (mSeq (mPut (mTup (aCons (mC (.str "number")) (aCons (mC (.int 1)) (aNil)))) (mVar 7) (mC (.str "late"))) (mSeq (mEx (mMeth .lst appendD (mMth "Tree" "children" g_Tree_childrenC (mVar 3) (aCons (mC (.int 0)) (aNil))) (aCons (mC (.int 99)) (aNil)))) (mSeq (mIfS (tOrD (tVal (mBin neO (mMth "Tree" "board" g_Tree_boardC (mVar 3) aNil) (mBin ixD (mBin ixD (mVar 4) (mC (.str "boards"))) (mBin ixD (mVar 4) (mC (.str "here")))))) (tVal (mBin (inD false) (mC (.int 99)) (mMth "Tree" "children" g_Tree_childrenC (mVar 3) (aCons (mC (.int 0)) (aNil)))))) (mRt (mC (.bl false))) (mNil)) (mRt (mBin eqO (mLc false (iAt (mTup (aCons (mC (.str "parent")) (aCons (mC (.str "children")) (aNil))))) [8] (TgS.g (.one 8)) (tYesD) (mCall g__law_told (aCons (mVar 3) (aCons (mVar 8) (aCons (mVar 6) (aNil)))))) (mBin mulD (mLst false (aCons (mTup (aCons (mC (.str "refused")) (aCons (mC (.str "number")) (aNil)))) (aNil))) (mC (.int 2)))))))))))
theorem m_law40 : m_law = mSeq (mAsg (mLst true (aNil)) (gVar 1)) (mSeq (mAsg (mCall g__law_board (aCons (mVar 0) (aCons (mVar 1) (aNil)))) (gVar 2)) (mSeq (mAsg (mMk "Tree" g_Tree_init (aCons (mVar 2) (aNil))) (gVar 3)) (mSeq (mAsg (mDict true [(mC (.str "boards"), mLst true (aCons (mVar 2) (aNil))), (mC (.str "parents"), mLst true (aCons (mC .non) (aNil))), (mC (.str "deeds"), mLst true (aCons (mTup (aCons (mC (.str "none")) (aNil))) (aNil))), (mC (.str "here"), mC (.int 0))]) (gVar 4)) (mSeq (mFor (iRng (mCall g__law_draw (aCons (mVar 0) (aCons (mVar 1) (aCons (mC (.int 41)) (aNil)))))) (gVar 5) wBody) tail40)))) := rfl

theorem eq_cellD {S : Store} {n : Nat} {x y : List (Key × D)} (h : S[n]? = some (.dct x)) : eqTop S (.loc n) (.dct y) = eqTop S (.dct x) (.dct y) := by
  have e1 : eqD S 20 (.loc n) (.dct y) = none := by
    show (match asL S (.loc n), (none : Option (List D)) with
      | some xs, some ys => if xs.length = ys.length then eqZ (eqD S 19) xs ys else some false
      | some _, none => if isTup (.dct y) || (flD (.dct y)).isSome then some false else none
      | none, some _ => _
      | none, none => if (isTup (.loc n) && (flD (.dct y)).isSome) || (isTup (.dct y) && (flD (.loc n)).isSome) then some false else none) = _
    rw [asL_dct h]; rfl
  have e2 : eqD S 20 (.dct x) (.dct y) = none := rfl
  unfold eqTop
  rw [e1, e2, asK_at h]; rfl
theorem I40.rd {t : Nat} {T : Tr} {bs : List Board} {ps : List (Option Nat)} {ds : List D} {h bl pl dl st : Nat} {R : Store} (I : I40 t T bs ps ds h bl pl dl st R) : Rd40 (tw t :: R) T bs ps ds h bl pl dl st := ⟨I.own.tok, I.c, I.ck, I.dL, I.gbl, I.gpl, I.gdl, I.gst⟩
theorem I40.grow {t : Nat} {T : Tr} {bs : List Board} {ps : List (Option Nat)} {ds : List D} {h bl pl dl st : Nat} {R : Store} (I : I40 t T bs ps ds h bl pl dl st R) (G : Store) : I40 t T bs ps ds h bl pl dl st (R ++ G) := ⟨I.own.grow G, I.c, I.ck, I.dL, I.ln, I.hh⟩
theorem loop40 (ns : List Int) {t : Nat} {T : Tr} {bs : List Board} {ps : List (Option Nat)} {ds : List D} {h bl pl dl st : Nat} {R : Store} (I : I40 t T bs ps ds h bl pl dl st R) (ht : t < 290000) (hb : bs.length < 500) (x2 x5 : Option D) : ∃ t' T' bs' ps' ds' h' R', I40 t' T' bs' ps' ds' h' bl pl dl st R' ∧ T'.n = T.n ∧ bs'.length ≤ bs.length + 1 ∧ t' ≤ t + 120 ∧
    wBody [some (sc ns), some (.loc 0), x2, some (.loc T.n), some (.loc st), x5, none, none, none] (tw t :: R) = .nx [some (sc ns), some (.loc 0), x2, some (.loc T.n), some (.loc st), x5, none, none, none] (tw t' :: R') := by
  obtain ⟨t', T', bs', ps', ds', h', R', I', hT, hl, ht', e⟩ := turn40 ns I ht hb
  have k := I'.own.tok
  have ea := run_at k
  have eb := run_boardC k
  rw [hT] at ea eb
  have ins := k.ins
  rw [hT] at ins
  have J := I'.grow [.dct (encB T'.board)]
  have hcell : (tw t' :: R' ++ [Cell.dct (encB T'.board)])[(tw t' :: R').length]? = some (.dct (encB T'.board)) := List.getElem?_concat_length
  obtain ⟨h2, e2, hl2, hs⟩ := I'.c.here
  have hh : h2 = h' := by have := I'.hh; omega
  subst hh
  have obh := I'.c.board hl2
  have q := eq_sim (S := tw t' :: (R' ++ [.dct (encB T'.board)])) hs I'.c.ob obh
  have q2 : eqTop (tw t' :: (R' ++ [Cell.dct (encB T'.board)])) (.loc (tw t' :: R').length) (.dct (encB (bs'.getD h2 []))) = some true := by
    rw [← q]; exact eq_cellD hcell
  have bh := ix_bs J.gbl hl2
  have eqh : eqTop (tw t' :: R') (.int T'.here) (.int h2) = some true := by
    show some (decide (T'.here = h2)) = _
    rw [e2]; simp
  refine ⟨t', T', bs', ps', ds', h2, R' ++ [.dct (encB T'.board)], J, hT, hl, ht', ?_⟩
  unfold wBody
  simp only [List.length_cons] at q2 eb
  simp [-List.getD_eq_getElem?_getD, e, truD, ins, ea, I'.xh, eqh, eb, J.xb, J.xh, bh, q2]
end Dee

set_option maxRecDepth 100000
set_option maxHeartbeats 4000000
namespace Dee
open PySem PySem.Spec L2
theorem parent_bad {S : Store} {T : Tr} (k : TOk S T) {i : Int} (h : T.nd i = none) : g_Tree_parent [.loc T.n, .int i] S = .exn "BadNumber" [] S := by
  have hn := run_need_bad k h
  rw [call_Tree_parent]; unfold m_Tree_parent
  simp [k.ins, hn]
theorem children_bad {S : Store} {T : Tr} (k : TOk S T) {i : Int} (h : T.nd i = none) : g_Tree_childrenC [.loc T.n, .int i] S = .exn "BadNumber" [] S := by
  have hn := run_need_bad k h
  rw [call_Tree_childrenC]; unfold m_Tree_childrenC
  simp [k.ins, hn]
theorem eq_refs2 (S : Store) : eqTop S (.lst [refD "number", refD "number"]) (.lst [refD "number", refD "number"]) = some true := by
  show (if 2 = 2 then some (_ && (_ && true)) else some false) = _
  simp
theorem tail_ok (ns : List Int) {t : Nat} {T : Tr} {bs : List Board} {ps : List (Option Nat)} {ds : List D} {h bl pl dl st : Nat} {R : Store} (I : I40 t T bs ps ds h bl pl dl st R) (hb : bs.length < 60) (x2 x5 : Option D) : ∃ S', soOut (tail40 [some (sc ns), some (.loc 0), x2, some (.loc T.n), some (.loc st), x5, none, none, none] (tw t :: R)) = .ok (.bl true) S' := by
  have I0 := I.rd
  obtain ⟨hh, e2, hl, hs⟩ := I.c.here
  have e3 : hh = h := by have := I.hh; omega
  subst e3
  have obh := I.c.board hl
  generalize hS : tw t :: R = S at *
  have xb := fun {G : Store} => (show ixD (.loc st) (.str (Str.ofString "boards")) (S ++ G) = some (.loc bl, S ++ G) by rw [ix_cellS (I0.grow G).gs, st_boards]; rfl)
  have xb0 : ixD (.loc st) (.str (Str.ofString "boards")) S = some (.loc bl, S) := by rw [ix_cellS I0.gs, st_boards]; rfl
  have xh := fun {G : Store} => (show ixD (.loc st) (.str (Str.ofString "here")) (S ++ G) = some (.int hh, S ++ G) by rw [ix_cellS (I0.grow G).gs, st_here]; rfl)
  have hlen := len_bs I0.gb
  have rn := run_nodes I0 (by omega)
  have ins0 := I0.k.ins
  have b0 := run_boardC I0.k
  obtain ⟨x, hx1, hx2⟩ := I.c.nd_lt I.c.pos
  have hk := I.ck 0 x hx1
  -- the stores, one behind the other
  generalize hB : encB T.board = B at *
  let B' := putL B (.inr (Str.ofString "late")) (.tup [.str (Str.ofString "number"), .int 1])
  let kl : List D := x.kids.map .int
  have ck1 : cellK (S ++ [.dct B]) (.loc S.length) = some (S.length, B) := cellK_at List.getElem?_concat_length
  have hBl : B.length < 1000000 := by rw [← hB, encB_len]; have := I.c.ob.2.1; omega
  have s2 : (S ++ [Cell.dct B]).set S.length (.dct B') = S ++ [.dct B'] := set_len S _ _
  have I2 := I0.grow [.dct B']
  have c2 := run_childrenC I2.k I2.c hx1
  have z0 : ((0 : Nat) : Int) = 0 := rfl
  rw [z0] at c2
  have l2 : (S ++ [Cell.dct B']).length = S.length + 1 := by simp
  rw [l2, List.append_assoc] at c2
  have kls : kl.length ≤ 60 := by
    show (x.kids.map D.int).length ≤ 60
    rw [List.length_map]; have := (I.c.nod 0 x hx1).2.2.1; omega
  have g3 : (S ++ [Cell.dct B', .lst kl])[S.length + 1]? = some (.lst kl) := get_at S _ 1
  have k3 : isK .lst (S ++ [Cell.dct B', .lst kl]) (.loc (S.length + 1)) = true := isK_lst g3
  have a3 := append_at g3 (by omega) (.int 99)
  rw [set_at] at a3
  have I3 := I0.grow [.dct B', .lst (kl ++ [.int 99])]
  have b3 := run_boardC I3.k
  rw [hB] at b3
  have l3 : (S ++ [Cell.dct B', .lst (kl ++ [.int 99])]).length = S.length + 2 := by simp
  rw [l3, List.append_assoc] at b3
  have I4 := I0.grow [.dct B', .lst (kl ++ [.int 99]), .dct B]
  have g4 : (S ++ [Cell.dct B', .lst (kl ++ [.int 99]), .dct B])[S.length + 2]? = some (.dct B) := get_at S _ 2
  have q4 : eqTop (S ++ [Cell.dct B', .lst (kl ++ [.int 99]), .dct B]) (.loc (S.length + 2)) (.dct (encB (bs.getD hh []))) = some true := by
    rw [eq_cellD g4, ← hB]; exact eq_sim hs I.c.ob obh
  have bh := ix_bs I4.gb hl
  have c4 := run_childrenC I4.k I4.c hx1
  rw [z0] at c4
  have l4 : (S ++ [Cell.dct B', .lst (kl ++ [.int 99]), .dct B]).length = S.length + 3 := by simp
  rw [l4, List.append_assoc] at c4
  have g5 : (S ++ [Cell.dct B', .lst (kl ++ [.int 99]), .dct B, .lst kl])[S.length + 3]? = some (.lst kl) := get_at S _ 3
  have in5 := in_loc (xs := x.kids) g5 99 false
  have n99 : (99 : Int) ∉ x.kids := fun hm => by
    rw [hk] at hm
    unfold kidsL at hm
    obtain ⟨y, hy, e⟩ := List.mem_map.mp hm
    have := List.mem_range.mp (List.mem_filter.mp hy).1
    have e : (y : Int) = 99 := e
    omega
  rw [decide_eq_false n99] at in5
  have I5 := I0.grow [.dct B', .lst (kl ++ [.int 99]), .dct B, .lst kl]
  have hbad : T.nd (bs.length : Int) = none := by
    cases hx : T.nd (bs.length : Int) with
    | none => rfl
    | some y => exact absurd (I.c.nd_iff.mp (by rw [hx]; rfl)).2 (by omega)
  have tp := told_parentX (c := "BadNumber") I5.k (parent_bad I5.k hbad) tag_number
  have tc := told_childrenX (c := "BadNumber") I5.k (children_bad I5.k hbad) tag_number
  have m2 : ∀ S : Store, mulD (.lst [refD "number"]) (.int 2) S = some (.lst [refD "number", refD "number"], S) := fun S => by
    rw [o_mulL, if_pos ⟨by decide, by decide, by simp⟩]
    rfl
  have hE := eq_refs2 (S ++ [Cell.dct B', .lst (kl ++ [.int 99]), .dct B, .lst kl])
  have lc := mLc_map (i := 8) (mi := iAt (mTup (aCons (mC (.str "parent")) (aCons (mC (.str "children")) (aNil))))) (me := mCall g__law_told (aCons (mVar 3) (aCons (mVar 8) (aCons (mVar 6) (aNil))))) (δ := [some (sc ns), some (.loc 0), x2, some (.loc T.n), some (.loc st), x5, some (.int bs.length), some (.loc S.length), none]) (S := S ++ [Cell.dct B', .lst (kl ++ [.int 99]), .dct B, .lst kl]) (d := .tup [.str "parent", .str "children"]) (l := [Str.ofString "parent", Str.ofString "children"]) (g := D.str) (h := fun _ => refD "number")
    (by simp) rfl (by simp) (by
      intro w hw
      simp only [List.mem_cons, List.not_mem_nil, or_false] at hw
      rcases hw with rfl | rfl
      · simp [wipeD, tp]
      · simp [wipeD, tc])
  have lc' : mLc false (iAt (mTup (aCons (mC (.str "parent")) (aCons (mC (.str "children")) (aNil))))) [8] (TgS.one 8).g tYesD (mCall g__law_told (aCons (mVar 3) (aCons (mVar 8) (aCons (mVar 6) (aNil))))) [some (sc ns), some (.loc 0), x2, some (.loc T.n), some (.loc st), x5, some (.int bs.length), some (.loc S.length), none] (S ++ [Cell.dct B', .lst (kl ++ [.int 99]), .dct B, .lst kl]) = .ok (.lst [refD "number", refD "number"]) (S ++ [Cell.dct B', .lst (kl ++ [.int 99]), .dct B, .lst kl]) := lc
  have r3 : refD "number" = .tup [.str "refused", .str "number"] := rfl
  have i2 := I2.k.ins
  have i3 := I3.k.ins
  have i4 := I4.k.ins
  refine ⟨S ++ [Cell.dct B', .lst (kl ++ [.int 99]), .dct B, .lst kl], ?_⟩
  rw [r3] at m2 hE lc'
  have s2' : (S ++ [Cell.dct B]).set S.length (.dct (putL B (.inr (Str.ofString "late")) (.tup [.str (Str.ofString "number"), .int 1]))) = S ++ [.dct B'] := s2
  have c2' : g_Tree_childrenC [.loc T.n, .int 0] (S ++ [Cell.dct B']) = .ok (.loc (S.length + 1)) (S ++ [Cell.dct B', .lst kl]) := c2
  have c4' : g_Tree_childrenC [.loc T.n, .int 0] (S ++ [Cell.dct B', .lst (kl ++ [.int 99]), .dct B]) = .ok (.loc (S.length + 3)) (S ++ [Cell.dct B', .lst (kl ++ [.int 99]), .dct B, .lst kl]) := c4
  have a3' : appendD (.loc (S.length + 1)) [.int 99] (S ++ [Cell.dct B', .lst kl]) = some (.non, S ++ [Cell.dct B', .lst (kl ++ [.int 99])]) := a3
  have b3' : g_Tree_boardC [.loc T.n] (S ++ [Cell.dct B', .lst (kl ++ [.int 99])]) = .ok (.loc (S.length + 2)) (S ++ [Cell.dct B', .lst (kl ++ [.int 99]), .dct B]) := b3
  clear c2 c4 a3 b3 s2 lc hS
  clear_value B' kl
  unfold tail40
  simp [-List.getD_eq_getElem?_getD, xb0, hlen, rn, truD, ins0, b0, ck1, keyD, hBl, s2', i2, c2', k3, a3', i3, b3', xb, xh, bh, q4, i4, c4', in5, lc', m2, hE]
end Dee

set_option maxRecDepth 100000
set_option maxHeartbeats 4000000
namespace Dee
open PySem PySem.Spec L2
theorem newT_dL (n : Nat) (b : Board) (ds : List D) : DeedL (newT n b) ds := by
  refine ⟨fun i p hp => ?_⟩
  obtain ⟨x, hx, hxp⟩ := Option.bind_eq_some_iff.mp hp
  obtain ⟨m, _⟩ := nd_mem hx
  rw [List.mem_singleton.mp m] at hxp
  cases hxp
theorem law_true (ns : List Int) : ∃ S', g_law [sc ns] [] = .ok (.bl true) S' := by
  obtain ⟨b, t0, ob, _, _, _, l0, e0⟩ := run_board ns [] (t := 0) (by omega)
  have e0' : g__law_board [sc ns, .loc 0] [.lst []] = .ok (.dct (encB b)) [tw t0, .dead] := e0
  have e1 := run_newTree ob [tw t0, .dead]
  have o1 : Own [tw t0, .dead] [(0, tw t0)] := ⟨by simp, fun p hp => by rw [List.mem_singleton.mp hp]; rfl⟩
  have o2 := new_own o1 b
  generalize hcs : ([.ins "Tree" (trF (newT [tw t0, Cell.dead].length b)), .dct [(.inl 0, .loc ([tw t0, Cell.dead].length + 2))], .ins "Node" [("origin", .non), ("deed", .non), ("other", .non), ("comes", .loc ([tw t0, Cell.dead].length + 3))], .lst [], .dct []] : Store) = cs at e1 o2
  have lcs : cs.length = 5 := by rw [← hcs]; rfl
  have o3 := (((o2.push (.lst (encBs [b]))).push (.lst (encPs [none]))).push (.lst [.tup [.str "none"]])).push (.dct (stF ((0 : Nat) : Int) 7 8 9))
  simp only [List.length_append, List.length_cons, List.length_nil, lcs, List.append_assoc, List.cons_append, List.nil_append, Nat.zero_add, Nat.reduceAdd] at o3
  have o4 : Own (tw t0 :: (.dead :: (cs ++ [.lst (encBs [b]), .lst (encPs [none]), .lst [.tup [.str "none"]], .dct (stF ((0 : Nat) : Int) 7 8 9)]))) (trCells (newT 2 b) ++ (0, tw t0) :: [(7, .lst (encBs [b])), (8, .lst (encPs [none])), (9, .lst [.tup [.str "none"]]), (10, .dct (stF ((0 : Nat) : Int) 7 8 9))]) := by
    have o3' : Own (tw t0 :: (.dead :: (cs ++ [Cell.lst (encBs [b]), .lst (encPs [none]), .lst [.tup [.str "none"]], .dct (stF ((0 : Nat) : Int) 7 8 9)]))) ((10, .dct (stF ((0 : Nat) : Int) 7 8 9)) :: (9, .lst [.tup [.str "none"]]) :: (8, .lst (encPs [none])) :: (7, .lst (encBs [b])) :: (trCells (newT 2 b) ++ [(0, tw t0)])) := o3
    exact o3'.perm (by (refine perm_cnt fun x => ?_; simp only [cnt_cons, cnt_app, cnt_nil, List.flatMap_append, List.flatMap_cons, List.flatMap_nil, List.map_append, List.map_cons, List.map_nil, List.cons_append, List.nil_append, List.append_assoc, List.append_nil]; try omega))
  have I0 : I40 t0 (newT 2 b) [b] [none] [.tup [.str "none"]] 0 7 8 9 10 (.dead :: (cs ++ [.lst (encBs [b]), .lst (encPs [none]), .lst [.tup [.str "none"]], .dct (stF ((0 : Nat) : Int) 7 8 9)])) := ⟨o4, coup_new ob, kids_new, newT_dL _ _ _, rfl, rfl⟩
  generalize hR0 : (.dead :: (cs ++ [.lst (encBs [b]), .lst (encPs [none]), .lst [.tup [.str "none"]], .dct (stF ((0 : Nat) : Int) 7 8 9)]) : Store) = R0 at I0
  obtain ⟨m, m0, m1, hm⟩ := run_draw ns R0 (t := t0) (m := 41) (by omega) (by decide)
  have I1 := I0.draw (t0 + 1)
  obtain ⟨δ', S', e, t, T, bs, ps, ds, h, R, x5, hT, I, hl, ht, rfl, rfl⟩ := forN_rng (g := gVar 5) (b := wBody) (lo := 0) (n := m.toNat)
    (fun i δ S => ∃ t T bs ps ds h R x5, T.n = 2 ∧ I40 t T bs ps ds h 7 8 9 10 R ∧ bs.length ≤ 1 + i ∧ t ≤ 200 + 120 * i ∧ δ = [some (sc ns), some (.loc 0), some (.dct (encB b)), some (.loc 2), some (.loc 10), x5, none, none, none] ∧ S = tw t :: R) (by
      rintro i δ S hi ⟨t, T, bs, ps, ds, h, R, x5, hT, I, hl, ht, rfl, rfl⟩
      obtain ⟨t', T', bs', ps', ds', h', R', I', hT', hl', ht', et⟩ := loop40 ns I (by omega) (by omega) (some (.dct (encB b))) (some (.int (0 + (i : Int))))
      rw [hT] at et
      exact ⟨_, rfl, _, _, et, t', T', bs', ps', ds', h', R', _, hT'.trans hT, I', by omega, by omega, rfl, rfl⟩) m.toNat 0 [some (sc ns), some (.loc 0), some (.dct (encB b)), some (.loc 2), some (.loc 10), none, none, none, none] (tw (t0 + 1) :: R0) (by omega)
    ⟨t0 + 1, newT 2 b, [b], [none], _, 0, _, none, rfl, I1, by simp, by omega, rfl, rfl⟩
  obtain ⟨S3, ee⟩ := tail_ok ns I (by omega) (some (.dct (encB b))) x5
  rw [hT] at ee
  rw [call_law, m_law40]
  refine ⟨[], ?_⟩
  have h1 : -1000000000 ≤ m := by omega
  have h2 : m < 1000000000 := by omega
  have e1' : g_Tree_init [.loc 2, .dct (encB b)] (tw t0 :: .dead :: [.ins "Tree" []]) = .ok .non (tw t0 :: .dead :: cs) := e1
  have eB : encBs [b] = [.dct (encB b)] := rfl
  have eP : encPs [none] = [.non] := rfl
  have eS : stF ((0 : Nat) : Int) 7 8 9 = [(.inr (Str.ofString "boards"), .loc 7), (.inr (Str.ofString "parents"), .loc 8), (.inr (Str.ofString "deeds"), .loc 9), (.inr (Str.ofString "here"), .int 0)] := rfl
  rw [← hR0, eB, eP, eS] at hm e
  generalize wBody = A at e ⊢
  generalize tail40 = TT at ee ⊢
  simp [e0', e1', lcs, outL, outK, keyD, mergeL, putL, hm, h1, h2, cntD, e, ee, frz_bl, gcn]
end Dee

set_option maxRecDepth 100000
set_option maxHeartbeats 4000000
namespace Dee
open PySem PySem.Spec L2
/-! ### the law's promise -/
def spLaw (K : PySem.W.Frag) : Sp := fun vs H Q _ => ∃ (a : Addr) (ns : List Int), vs = [.ref a] ∧ SqL K H a (ns.map V.int) ∧ ns.length ≤ 63 ∧ ∀ H', Q (.bl true) H'
theorem law_imp {K : PySem.W.Frag} {w : World} {a : Str → Addr} (vs : List V) (H : Hp) (Q : VK) (E : XK) (h : spLaw K vs H Q E) : spD ⟨K, w, a⟩ 1 g_law vs H Q E := by
  obtain ⟨p, ns, rfl, hS, hl, k⟩ := h
  have hF : SqL K (fun b => if b = p then H b else none) p (ns.map V.int) := by
    rcases hS with (hS | ⟨o, hS⟩) | hS
    · exact .inl (.inl (by show (if p = p then H p else none) = _; rw [if_pos rfl]; exact hS))
    · exact .inl (.inr ⟨o, by show (if p = p then H p else none) = _; rw [if_pos rfl]; exact hS⟩)
    · exact .inr hS
  refine ⟨fun _ => none, fun b => if b = p then H b else none, [], [], [sc ns], ⟨fun b u e => ?_, rfl, fun n c q e => by simp at e, fun n m q l => ?_, fun q o e => by cases e⟩, .cons (.rol hF (rep_ints ns)) .nil, rfl, ?_⟩
  · have e : (if b = p then H b else none) = some u := e
    split at e
    · exact .inl e
    · cases e
  · obtain ⟨c, e, _⟩ := l
    simp at e
  · obtain ⟨S', e⟩ := law_true ns
    rw [e]
    intro F' ρ' H' b x rel r
    cases r
    exact k H'
theorem kit_own {K : PySem.W.Frag} {c C : Addr} {b : Bool} (h1 : PySem.W.isClsIn K C = true) (h2 : PySem.W.typeIn K (.ref C) = some (.type "type")) (h3 : PySem.W.subIn K (.ref c) (.ref C) = some b) : PySem.W.kitCls K (.ref c) (.ref C) = some b := by
  show (if ((PySem.W.clsIn K C).isSome && PySem.W.typeIn K (.ref C) == some (.type "type")) = true then PySem.W.subIn K (.ref c) (.ref C) else none) = some b
  rw [if_pos (by rw [show (PySem.W.clsIn K C).isSome = true from h1, h2]; rfl), h3]
theorem kit1_own {K : PySem.W.Frag} {c C : Addr} {b : Bool} (h1 : PySem.W.isClsIn K C = true) (h2 : PySem.W.typeIn K (.ref C) = some (.type "type")) (h3 : PySem.W.subIn K (.ref c) (.ref C) = some b) (h4 : (Value.ref c == Value.ref C) = true → b = true) : PySem.W.kitOne K (.ref c) (.ref C) = some b := by
  unfold PySem.W.kitOne
  split
  · rename_i h; rw [h4 h]
  · exact kit_own h1 h2 h3
theorem exm_own {K : PySem.W.Frag} {c C : Addr} {b : Bool} (h0 : PySem.W.subIn K (.ref C) (.type "BaseException") = some true) (h1 : PySem.W.isClsIn K C = true) (h2 : PySem.W.typeIn K (.ref C) = some (.type "type")) (h3 : PySem.W.subIn K (.ref c) (.ref C) = some b) : PySem.W.exmOne K (.ref c) (.ref C) = some b := by
  unfold PySem.W.exmOne
  rw [if_pos (by rw [h0]; rfl)]
  exact kit_own h1 h2 h3
theorem tab6 {t : Str → Option Bool} {P : Str → Bool → Prop} (hk : ∀ c b, t c = some b → c = "BadDeed" ∨ c = "BadBoard" ∨ c = "BadNumber" ∨ c = "Stuck" ∨ c = "Open" ∨ c = "Clash") (h1 : ∀ b, t "BadDeed" = some b → P "BadDeed" b) (h2 : ∀ b, t "BadBoard" = some b → P "BadBoard" b) (h3 : ∀ b, t "BadNumber" = some b → P "BadNumber" b)
    (h4 : ∀ b, t "Stuck" = some b → P "Stuck" b) (h5 : ∀ b, t "Open" = some b → P "Open" b) (h6 : ∀ b, t "Clash" = some b → P "Clash" b) : ∀ c b, t c = some b → P c b := fun c b h => by
  rcases hk c b h with rfl | rfl | rfl | rfl | rfl | rfl
  · exact h1 b h
  · exact h2 b h
  · exact h3 b h
  · exact h4 b h
  · exact h5 b h
  · exact h6 b h
theorem look6 {x1 x2 x3 x4 x5 x6 : Bool} (c : Str) (b : Bool) (h : ([("BadDeed", x1), ("BadBoard", x2), ("BadNumber", x3), ("Stuck", x4), ("Open", x5), ("Clash", x6)] : List (Str × Bool)).lookup c = some b) : c = "BadDeed" ∨ c = "BadBoard" ∨ c = "BadNumber" ∨ c = "Stuck" ∨ c = "Open" ∨ c = "Clash" := by
  simp only [List.lookup_cons, List.lookup_nil] at h
  by_cases h1 : c = "BadDeed"; · exact .inl h1
  by_cases h2 : c = "BadBoard"; · exact .inr (.inl h2)
  by_cases h3 : c = "BadNumber"; · exact .inr (.inr (.inl h3))
  by_cases h4 : c = "Stuck"; · exact .inr (.inr (.inr (.inl h4)))
  by_cases h5 : c = "Open"; · exact .inr (.inr (.inr (.inr (.inl h5))))
  by_cases h6 : c = "Clash"; · exact .inr (.inr (.inr (.inr (.inr h6))))
  rw [beq_eq_false_iff_ne.mpr h1, beq_eq_false_iff_ne.mpr h2, beq_eq_false_iff_ne.mpr h3, beq_eq_false_iff_ne.mpr h4, beq_eq_false_iff_ne.mpr h5, beq_eq_false_iff_ne.mpr h6] at h
  cases h
theorem ty6 {x1 x2 x3 x4 x5 x6 : Bool} {P : String → Bool → Prop} (h1 : P "NoneType" x1) (h2 : P "bool" x2) (h3 : P "int" x3) (h4 : P "str" x4) (h5 : P "tuple" x5) (h6 : P "list" x6) : ∀ n b, ([("NoneType", x1), ("bool", x2), ("int", x3), ("str", x4), ("tuple", x5), ("list", x6)] : List (String × Bool)).lookup n = some b → P n b := fun n b h => by
  simp only [List.lookup_cons, List.lookup_nil] at h
  by_cases e1 : n = "NoneType"; · subst e1; simp at h; subst h; exact h1
  rw [beq_eq_false_iff_ne.mpr e1] at h
  by_cases e2 : n = "bool"; · subst e2; simp at h; subst h; exact h2
  rw [beq_eq_false_iff_ne.mpr e2] at h
  by_cases e3 : n = "int"; · subst e3; simp at h; subst h; exact h3
  rw [beq_eq_false_iff_ne.mpr e3] at h
  by_cases e4 : n = "str"; · subst e4; simp at h; subst h; exact h4
  rw [beq_eq_false_iff_ne.mpr e4] at h
  by_cases e5 : n = "tuple"; · subst e5; simp at h; subst h; exact h5
  rw [beq_eq_false_iff_ne.mpr e5] at h
  by_cases e6 : n = "list"; · subst e6; simp at h; subst h; exact h6
  rw [beq_eq_false_iff_ne.mpr e6] at h
  cases h
theorem ty_own {K : PySem.W.Frag} {C : Addr} {n : String} (h1 : PySem.W.isClsIn K C = true) (h2 : PySem.W.typeIn K (.ref C) = some (.type "type")) {b : Bool} (h3 : ∀ c : Addr, (PySem.fastBuiltinMro n).map (·.contains (Value.ref c)) = some b) : PySem.W.kitOne K (.type n) (.ref C) = some b := by
  show (if (Value.type n == Value.ref C) = true then some true else if ((PySem.W.clsIn K C).isSome && PySem.W.typeIn K (.ref C) == some (.type "type")) = true then PySem.W.subIn K (.type n) (.ref C) else none) = some b
  rw [if_neg (show ¬ (Value.type n == Value.ref C) = true from fun z => by cases beq_iff_eq.mp z), if_pos (by rw [show (PySem.W.clsIn K C).isSome = true from h1, h2]; rfl)]
  exact h3 C
theorem kit_vty {K : PySem.W.Frag} {c : Addr} {b : Bool} (h : PySem.W.subIn K (.ref c) (.type "ValueError") = some b) : PySem.W.kitOne K (.ref c) (.type "ValueError") = some b := by
  show (if (Value.ref c == Value.type "ValueError") = true then some true else if PySem.W.kitMeta "ValueError" = true then PySem.W.subIn K (.ref c) (.type "ValueError") else none) = some b
  rw [if_neg (show ¬ (Value.ref c == Value.type "ValueError") = true from fun z => by cases beq_iff_eq.mp z), if_pos (by decide +kernel)]
  exact h
theorem all_mk {P : Program} {w : World} {K : PySem.W.Frag} {h : Heap} {mg : Str → Option Value} {fa : Addr} (X : K.In h) (G : h.Ns mainGlobals mg) (hfa : mg "law" = some (.ref fa))
    {C_Node : Addr}
    {C_Tree : Addr}
    {C_BadBoard : Addr}
    {C_BadDeed : Addr}
    {C_BadNumber : Addr}
    {C_Clash : Addr}
    {C_Open : Addr}
    {C_Stuck : Addr}
    {C_UndoError : Addr}
    {f0 : Addr} {od0 an0 : Option Addr} {sl0 : Array (Option Value)} {oc0 kV0 dc0 pm0 cd0 ct0 : Value}
    {f1 : Addr} {od1 an1 : Option Addr} {sl1 : Array (Option Value)} {oc1 kV1 dc1 pm1 cd1 ct1 : Value}
    {f2 : Addr} {od2 an2 : Option Addr} {sl2 : Array (Option Value)} {oc2 kV2 dc2 pm2 cd2 ct2 : Value}
    {f3 : Addr} {od3 an3 : Option Addr} {sl3 : Array (Option Value)} {oc3 kV3 dc3 pm3 cd3 ct3 : Value}
    {f4 : Addr} {od4 an4 : Option Addr} {sl4 : Array (Option Value)} {oc4 kV4 dc4 pm4 cd4 ct4 : Value}
    {f5 : Addr} {od5 an5 : Option Addr} {sl5 : Array (Option Value)} {oc5 kV5 dc5 pm5 cd5 ct5 : Value}
    {f6 : Addr} {od6 an6 : Option Addr} {sl6 : Array (Option Value)} {oc6 kV6 dc6 pm6 cd6 ct6 : Value}
    {f7 : Addr} {od7 an7 : Option Addr} {sl7 : Array (Option Value)} {oc7 kV7 dc7 pm7 cd7 ct7 : Value}
    {f8 : Addr} {od8 an8 : Option Addr} {sl8 : Array (Option Value)} {oc8 kV8 dc8 pm8 cd8 ct8 : Value}
    {f9 : Addr} {od9 an9 : Option Addr} {sl9 : Array (Option Value)} {oc9 kV9 dc9 pm9 cd9 ct9 : Value}
    {f10 : Addr} {od10 an10 : Option Addr} {sl10 : Array (Option Value)} {oc10 kV10 dc10 pm10 cd10 ct10 : Value}
    {f11 : Addr} {od11 an11 : Option Addr} {sl11 : Array (Option Value)} {oc11 kV11 dc11 pm11 cd11 ct11 : Value}
    {f12 : Addr} {od12 an12 : Option Addr} {sl12 : Array (Option Value)} {oc12 kV12 dc12 pm12 cd12 ct12 : Value}
    {f13 : Addr} {od13 an13 : Option Addr} {sl13 : Array (Option Value)} {oc13 kV13 dc13 pm13 cd13 ct13 : Value}
    {f14 : Addr} {od14 an14 : Option Addr} {sl14 : Array (Option Value)} {oc14 kV14 dc14 pm14 cd14 ct14 : Value}
    {f15 : Addr} {od15 an15 : Option Addr} {sl15 : Array (Option Value)} {oc15 kV15 dc15 pm15 cd15 ct15 : Value}
    {f16 : Addr} {od16 an16 : Option Addr} {sl16 : Array (Option Value)} {oc16 kV16 dc16 pm16 cd16 ct16 : Value}
    {f17 : Addr} {od17 an17 : Option Addr} {sl17 : Array (Option Value)} {oc17 kV17 dc17 pm17 cd17 ct17 : Value}
    {f18 : Addr} {od18 an18 : Option Addr} {sl18 : Array (Option Value)} {oc18 kV18 dc18 pm18 cd18 ct18 : Value}
    {f19 : Addr} {od19 an19 : Option Addr} {sl19 : Array (Option Value)} {oc19 kV19 dc19 pm19 cd19 ct19 : Value}
    {f20 : Addr} {od20 an20 : Option Addr} {sl20 : Array (Option Value)} {oc20 kV20 dc20 pm20 cd20 ct20 : Value}
    {f21 : Addr} {od21 an21 : Option Addr} {sl21 : Array (Option Value)} {oc21 kV21 dc21 pm21 cd21 ct21 : Value}
    {f22 : Addr} {od22 an22 : Option Addr} {sl22 : Array (Option Value)} {oc22 kV22 dc22 pm22 cd22 ct22 : Value}
    {f23 : Addr} {od23 an23 : Option Addr} {sl23 : Array (Option Value)} {oc23 kV23 dc23 pm23 cd23 ct23 : Value}
    {f24 : Addr} {od24 an24 : Option Addr} {sl24 : Array (Option Value)} {oc24 kV24 dc24 pm24 cd24 ct24 : Value}
    {f25 : Addr} {od25 an25 : Option Addr} {sl25 : Array (Option Value)} {oc25 kV25 dc25 pm25 cd25 ct25 : Value}
    {f26 : Addr} {od26 an26 : Option Addr} {sl26 : Array (Option Value)} {oc26 kV26 dc26 pm26 cd26 ct26 : Value}
    {f27 : Addr} {od27 an27 : Option Addr} {sl27 : Array (Option Value)} {oc27 kV27 dc27 pm27 cd27 ct27 : Value}
    {f28 : Addr} {od28 an28 : Option Addr} {sl28 : Array (Option Value)} {oc28 kV28 dc28 pm28 cd28 ct28 : Value}
    {f29 : Addr} {od29 an29 : Option Addr} {sl29 : Array (Option Value)} {oc29 kV29 dc29 pm29 cd29 ct29 : Value}
    {f30 : Addr} {od30 an30 : Option Addr} {sl30 : Array (Option Value)} {oc30 kV30 dc30 pm30 cd30 ct30 : Value}
    {f31 : Addr} {od31 an31 : Option Addr} {sl31 : Array (Option Value)} {oc31 kV31 dc31 pm31 cd31 ct31 : Value}
    {f32 : Addr} {od32 an32 : Option Addr} {sl32 : Array (Option Value)} {oc32 kV32 dc32 pm32 cd32 ct32 : Value}
    {f33 : Addr} {od33 an33 : Option Addr} {sl33 : Array (Option Value)} {oc33 kV33 dc33 pm33 cd33 ct33 : Value}
    {f34 : Addr} {od34 an34 : Option Addr} {sl34 : Array (Option Value)} {oc34 kV34 dc34 pm34 cd34 ct34 : Value}
    {f35 : Addr} {od35 an35 : Option Addr} {sl35 : Array (Option Value)} {oc35 kV35 dc35 pm35 cd35 ct35 : Value}
    {f36 : Addr} {od36 an36 : Option Addr} {sl36 : Array (Option Value)} {oc36 kV36 dc36 pm36 cd36 ct36 : Value}
    {f37 : Addr} {od37 an37 : Option Addr} {sl37 : Array (Option Value)} {oc37 kV37 dc37 pm37 cd37 ct37 : Value}
    {f38 : Addr} {od38 an38 : Option Addr} {sl38 : Array (Option Value)} {oc38 kV38 dc38 pm38 cd38 ct38 : Value}
    {f39 : Addr} {od39 an39 : Option Addr} {sl39 : Array (Option Value)} {oc39 kV39 dc39 pm39 cd39 ct39 : Value}
    {f40 : Addr} {od40 an40 : Option Addr} {sl40 : Array (Option Value)} {oc40 kV40 dc40 pm40 cd40 ct40 : Value}
    {f41 : Addr} {od41 an41 : Option Addr} {sl41 : Array (Option Value)} {oc41 kV41 dc41 pm41 cd41 ct41 : Value}
    {f42 : Addr} {od42 an42 : Option Addr} {sl42 : Array (Option Value)} {oc42 kV42 dc42 pm42 cd42 ct42 : Value}
    {f43 : Addr} {od43 an43 : Option Addr} {sl43 : Array (Option Value)} {oc43 kV43 dc43 pm43 cd43 ct43 : Value}
    {t_MOST_NAMES : Tok}
    {t_MOST_NUMBER : Tok}
    {t_MOST_ROW : Tok}
    {t_MOST_TEXT : Tok}
    {t_MOST_WORD : Tok}
    {t_SMALL : Tok}
    {p_KINDS : Addr}
    {es_KINDS : Array DictEntry} {n_KINDS : Nat}
    {p_SIZES : Addr}
    {es_SIZES : Array DictEntry} {n_SIZES : Nat}
    (a0 : PySem.W.nsIn K mainGlobals "is_word" = some (some (.ref f0)))
    (l0 : K.lookup f0 = some ⟨oc0, od0, .func (PySem.W.fnOf "is_word" "is_word" (defArgs s_is_word) (defBody s_is_word) (defScope s_is_word) .none kV0 dc0 pm0 an0 cd0 ct0), sl0⟩)
    (c0 : PySem.W.codeIn K cd0 "is_word" = true)
    (k0 : PySem.W.keepIn K (.ref f0) = true)
    (a1 : PySem.W.nsIn K mainGlobals "is_text" = some (some (.ref f1)))
    (l1 : K.lookup f1 = some ⟨oc1, od1, .func (PySem.W.fnOf "is_text" "is_text" (defArgs s_is_text) (defBody s_is_text) (defScope s_is_text) .none kV1 dc1 pm1 an1 cd1 ct1), sl1⟩)
    (c1 : PySem.W.codeIn K cd1 "is_text" = true)
    (k1 : PySem.W.keepIn K (.ref f1) = true)
    (a2 : PySem.W.nsIn K mainGlobals "is_value" = some (some (.ref f2)))
    (l2 : K.lookup f2 = some ⟨oc2, od2, .func (PySem.W.fnOf "is_value" "is_value" (defArgs s_is_value) (defBody s_is_value) (defScope s_is_value) .none kV2 dc2 pm2 an2 cd2 ct2), sl2⟩)
    (c2 : PySem.W.codeIn K cd2 "is_value" = true)
    (k2 : PySem.W.keepIn K (.ref f2) = true)
    (a3 : PySem.W.nsIn K mainGlobals "look_board" = some (some (.ref f3)))
    (l3 : K.lookup f3 = some ⟨oc3, od3, .func (PySem.W.fnOf "look_board" "look_board" (defArgs s_look_board) (defBody s_look_board) (defScope s_look_board) .none kV3 dc3 pm3 an3 cd3 ct3), sl3⟩)
    (c3 : PySem.W.codeIn K cd3 "look_board" = true)
    (k3 : PySem.W.keepIn K (.ref f3) = true)
    (a4 : PySem.W.nsIn K mainGlobals "must" = some (some (.ref f4)))
    (l4 : K.lookup f4 = some ⟨oc4, od4, .func (PySem.W.fnOf "must" "must" (defArgs s_must) (defBody s_must) (defScope s_must) .none kV4 dc4 pm4 an4 cd4 ct4), sl4⟩)
    (c4 : PySem.W.codeIn K cd4 "must" = true)
    (k4 : PySem.W.keepIn K (.ref f4) = true)
    (a5 : PySem.W.nsIn K mainGlobals "look_deed" = some (some (.ref f5)))
    (l5 : K.lookup f5 = some ⟨oc5, od5, .func (PySem.W.fnOf "look_deed" "look_deed" (defArgs s_look_deed) (defBody s_look_deed) (defScope s_look_deed) .none kV5 dc5 pm5 an5 cd5 ct5), sl5⟩)
    (c5 : PySem.W.codeIn K cd5 "look_deed" = true)
    (k5 : PySem.W.keepIn K (.ref f5) = true)
    (a6 : PySem.W.nsIn K mainGlobals "with_value" = some (some (.ref f6)))
    (l6 : K.lookup f6 = some ⟨oc6, od6, .func (PySem.W.fnOf "with_value" "with_value" (defArgs s_with_value) (defBody s_with_value) (defScope s_with_value) .none kV6 dc6 pm6 an6 cd6 ct6), sl6⟩)
    (c6 : PySem.W.codeIn K cd6 "with_value" = true)
    (k6 : PySem.W.keepIn K (.ref f6) = true)
    (a7 : PySem.W.nsIn K mainGlobals "without" = some (some (.ref f7)))
    (l7 : K.lookup f7 = some ⟨oc7, od7, .func (PySem.W.fnOf "without" "without" (defArgs s_without) (defBody s_without) (defScope s_without) .none kV7 dc7 pm7 an7 cd7 ct7), sl7⟩)
    (c7 : PySem.W.codeIn K cd7 "without" = true)
    (k7 : PySem.W.keepIn K (.ref f7) = true)
    (a8 : PySem.W.nsIn K mainGlobals "on_names" = some (some (.ref f8)))
    (l8 : K.lookup f8 = some ⟨oc8, od8, .func (PySem.W.fnOf "on_names" "on_names" (defArgs s_on_names) (defBody s_on_names) (defScope s_on_names) .none kV8 dc8 pm8 an8 cd8 ct8), sl8⟩)
    (c8 : PySem.W.codeIn K cd8 "on_names" = true)
    (k8 : PySem.W.keepIn K (.ref f8) = true)
    (a9 : PySem.W.nsIn K mainGlobals "on_text" = some (some (.ref f9)))
    (l9 : K.lookup f9 = some ⟨oc9, od9, .func (PySem.W.fnOf "on_text" "on_text" (defArgs s_on_text) (defBody s_on_text) (defScope s_on_text) .none kV9 dc9 pm9 an9 cd9 ct9), sl9⟩)
    (c9 : PySem.W.codeIn K cd9 "on_text" = true)
    (k9 : PySem.W.keepIn K (.ref f9) = true)
    (a10 : PySem.W.nsIn K mainGlobals "on_row" = some (some (.ref f10)))
    (l10 : K.lookup f10 = some ⟨oc10, od10, .func (PySem.W.fnOf "on_row" "on_row" (defArgs s_on_row) (defBody s_on_row) (defScope s_on_row) .none kV10 dc10 pm10 an10 cd10 ct10), sl10⟩)
    (c10 : PySem.W.codeIn K cd10 "on_row" = true)
    (k10 : PySem.W.keepIn K (.ref f10) = true)
    (a11 : PySem.W.nsIn K mainGlobals "done" = some (some (.ref f11)))
    (l11 : K.lookup f11 = some ⟨oc11, od11, .func (PySem.W.fnOf "done" "done" (defArgs s_done) (defBody s_done) (defScope s_done) .none kV11 dc11 pm11 an11 cd11 ct11), sl11⟩)
    (c11 : PySem.W.codeIn K cd11 "done" = true)
    (k11 : PySem.W.keepIn K (.ref f11) = true)
    (a12 : PySem.W.nsIn K mainGlobals "back" = some (some (.ref f12)))
    (l12 : K.lookup f12 = some ⟨oc12, od12, .func (PySem.W.fnOf "back" "back" (defArgs s_back) (defBody s_back) (defScope s_back) .none kV12 dc12 pm12 an12 cd12 ct12), sl12⟩)
    (c12 : PySem.W.codeIn K cd12 "back" = true)
    (k12 : PySem.W.keepIn K (.ref f12) = true)
    (a13 : PySem.W.nsIn K mainGlobals "all_done" = some (some (.ref f13)))
    (l13 : K.lookup f13 = some ⟨oc13, od13, .func (PySem.W.fnOf "all_done" "all_done" (defArgs s_all_done) (defBody s_all_done) (defScope s_all_done) .none kV13 dc13 pm13 an13 cd13 ct13), sl13⟩)
    (c13 : PySem.W.codeIn K cd13 "all_done" = true)
    (k13 : PySem.W.keepIn K (.ref f13) = true)
    (a14 : PySem.W.findIn K (.ref C_Node) "__init__" = some (some (.ref f14)))
    (i14 : PySem.W.isFn K (.ref f14) = true)
    (l14 : K.lookup f14 = some ⟨oc14, od14, .func (PySem.W.fnOf "__init__" "Node.__init__" (defArgs s_Node_init) (defBody s_Node_init) (defScope s_Node_init) .none kV14 dc14 pm14 an14 cd14 ct14), sl14⟩)
    (c14 : PySem.W.codeIn K cd14 "Node.__init__" = true)
    (k14 : PySem.W.keepIn K (.ref f14) = true)
    (a15 : PySem.W.findIn K (.ref C_Tree) "__init__" = some (some (.ref f15)))
    (i15 : PySem.W.isFn K (.ref f15) = true)
    (l15 : K.lookup f15 = some ⟨oc15, od15, .func (PySem.W.fnOf "__init__" "Tree.__init__" (defArgs s_Tree_init) (defBody s_Tree_init) (defScope s_Tree_init) .none kV15 dc15 pm15 an15 cd15 ct15), sl15⟩)
    (c15 : PySem.W.codeIn K cd15 "Tree.__init__" = true)
    (k15 : PySem.W.keepIn K (.ref f15) = true)
    (a16 : PySem.W.findIn K (.ref C_Tree) "board" = some (some (.ref f16)))
    (i16 : PySem.W.isFn K (.ref f16) = true)
    (l16 : K.lookup f16 = some ⟨oc16, od16, .func (PySem.W.fnOf "board" "Tree.board" (defArgs s_Tree_board) (defBody s_Tree_board) (defScope s_Tree_board) .none kV16 dc16 pm16 an16 cd16 ct16), sl16⟩)
    (c16 : PySem.W.codeIn K cd16 "Tree.board" = true)
    (k16 : PySem.W.keepIn K (.ref f16) = true)
    (a17 : PySem.W.findIn K (.ref C_Tree) "at" = some (some (.ref f17)))
    (i17 : PySem.W.isFn K (.ref f17) = true)
    (l17 : K.lookup f17 = some ⟨oc17, od17, .func (PySem.W.fnOf "at" "Tree.at" (defArgs s_Tree_at) (defBody s_Tree_at) (defScope s_Tree_at) .none kV17 dc17 pm17 an17 cd17 ct17), sl17⟩)
    (c17 : PySem.W.codeIn K cd17 "Tree.at" = true)
    (k17 : PySem.W.keepIn K (.ref f17) = true)
    (a18 : PySem.W.findIn K (.ref C_Tree) "need" = some (some (.ref f18)))
    (i18 : PySem.W.isFn K (.ref f18) = true)
    (l18 : K.lookup f18 = some ⟨oc18, od18, .func (PySem.W.fnOf "need" "Tree.need" (defArgs s_Tree_need) (defBody s_Tree_need) (defScope s_Tree_need) .none kV18 dc18 pm18 an18 cd18 ct18), sl18⟩)
    (c18 : PySem.W.codeIn K cd18 "Tree.need" = true)
    (k18 : PySem.W.keepIn K (.ref f18) = true)
    (a19 : PySem.W.findIn K (.ref C_Tree) "do" = some (some (.ref f19)))
    (i19 : PySem.W.isFn K (.ref f19) = true)
    (l19 : K.lookup f19 = some ⟨oc19, od19, .func (PySem.W.fnOf "do" "Tree.do" (defArgs s_Tree_do) (defBody s_Tree_do) (defScope s_Tree_do) .none kV19 dc19 pm19 an19 cd19 ct19), sl19⟩)
    (c19 : PySem.W.codeIn K cd19 "Tree.do" = true)
    (k19 : PySem.W.keepIn K (.ref f19) = true)
    (a20 : PySem.W.findIn K (.ref C_Tree) "above" = some (some (.ref f20)))
    (i20 : PySem.W.isFn K (.ref f20) = true)
    (l20 : K.lookup f20 = some ⟨oc20, od20, .func (PySem.W.fnOf "above" "Tree.above" (defArgs s_Tree_above) (defBody s_Tree_above) (defScope s_Tree_above) .none kV20 dc20 pm20 an20 cd20 ct20), sl20⟩)
    (c20 : PySem.W.codeIn K cd20 "Tree.above" = true)
    (k20 : PySem.W.keepIn K (.ref f20) = true)
    (a21 : PySem.W.findIn K (.ref C_Tree) "path" = some (some (.ref f21)))
    (i21 : PySem.W.isFn K (.ref f21) = true)
    (l21 : K.lookup f21 = some ⟨oc21, od21, .func (PySem.W.fnOf "path" "Tree.path" (defArgs s_Tree_path) (defBody s_Tree_path) (defScope s_Tree_path) .none kV21 dc21 pm21 an21 cd21 ct21), sl21⟩)
    (c21 : PySem.W.codeIn K cd21 "Tree.path" = true)
    (k21 : PySem.W.keepIn K (.ref f21) = true)
    (a22 : PySem.W.findIn K (.ref C_Tree) "between" = some (some (.ref f22)))
    (i22 : PySem.W.isFn K (.ref f22) = true)
    (l22 : K.lookup f22 = some ⟨oc22, od22, .func (PySem.W.fnOf "between" "Tree.between" (defArgs s_Tree_between) (defBody s_Tree_between) (defScope s_Tree_between) .none kV22 dc22 pm22 an22 cd22 ct22), sl22⟩)
    (c22 : PySem.W.codeIn K cd22 "Tree.between" = true)
    (k22 : PySem.W.keepIn K (.ref f22) = true)
    (a23 : PySem.W.findIn K (.ref C_Tree) "go" = some (some (.ref f23)))
    (i23 : PySem.W.isFn K (.ref f23) = true)
    (l23 : K.lookup f23 = some ⟨oc23, od23, .func (PySem.W.fnOf "go" "Tree.go" (defArgs s_Tree_go) (defBody s_Tree_go) (defScope s_Tree_go) .none kV23 dc23 pm23 an23 cd23 ct23), sl23⟩)
    (c23 : PySem.W.codeIn K cd23 "Tree.go" = true)
    (k23 : PySem.W.keepIn K (.ref f23) = true)
    (a24 : PySem.W.findIn K (.ref C_Tree) "parent" = some (some (.ref f24)))
    (i24 : PySem.W.isFn K (.ref f24) = true)
    (l24 : K.lookup f24 = some ⟨oc24, od24, .func (PySem.W.fnOf "parent" "Tree.parent" (defArgs s_Tree_parent) (defBody s_Tree_parent) (defScope s_Tree_parent) .none kV24 dc24 pm24 an24 cd24 ct24), sl24⟩)
    (c24 : PySem.W.codeIn K cd24 "Tree.parent" = true)
    (k24 : PySem.W.keepIn K (.ref f24) = true)
    (a25 : PySem.W.findIn K (.ref C_Tree) "children" = some (some (.ref f25)))
    (i25 : PySem.W.isFn K (.ref f25) = true)
    (l25 : K.lookup f25 = some ⟨oc25, od25, .func (PySem.W.fnOf "children" "Tree.children" (defArgs s_Tree_children) (defBody s_Tree_children) (defScope s_Tree_children) .none kV25 dc25 pm25 an25 cd25 ct25), sl25⟩)
    (c25 : PySem.W.codeIn K cd25 "Tree.children" = true)
    (k25 : PySem.W.keepIn K (.ref f25) = true)
    (a26 : PySem.W.findIn K (.ref C_Tree) "tips" = some (some (.ref f26)))
    (i26 : PySem.W.isFn K (.ref f26) = true)
    (l26 : K.lookup f26 = some ⟨oc26, od26, .func (PySem.W.fnOf "tips" "Tree.tips" (defArgs s_Tree_tips) (defBody s_Tree_tips) (defScope s_Tree_tips) .none kV26 dc26 pm26 an26 cd26 ct26), sl26⟩)
    (c26 : PySem.W.codeIn K cd26 "Tree.tips" = true)
    (k26 : PySem.W.keepIn K (.ref f26) = true)
    (a27 : PySem.W.findIn K (.ref C_Tree) "many" = some (some (.ref f27)))
    (i27 : PySem.W.isFn K (.ref f27) = true)
    (l27 : K.lookup f27 = some ⟨oc27, od27, .func (PySem.W.fnOf "many" "Tree.many" (defArgs s_Tree_many) (defBody s_Tree_many) (defScope s_Tree_many) .none kV27 dc27 pm27 an27 cd27 ct27), sl27⟩)
    (c27 : PySem.W.codeIn K cd27 "Tree.many" = true)
    (k27 : PySem.W.keepIn K (.ref f27) = true)
    (a28 : PySem.W.nsIn K mainGlobals "_law_cell" = some (some (.ref f28)))
    (l28 : K.lookup f28 = some ⟨oc28, od28, .func (PySem.W.fnOf "_law_cell" "_law_cell" (defArgs s__law_cell) (defBody s__law_cell) (defScope s__law_cell) .none kV28 dc28 pm28 an28 cd28 ct28), sl28⟩)
    (c28 : PySem.W.codeIn K cd28 "_law_cell" = true)
    (k28 : PySem.W.keepIn K (.ref f28) = true)
    (a29 : PySem.W.nsIn K mainGlobals "_law_mix" = some (some (.ref f29)))
    (l29 : K.lookup f29 = some ⟨oc29, od29, .func (PySem.W.fnOf "_law_mix" "_law_mix" (defArgs s__law_mix) (defBody s__law_mix) (defScope s__law_mix) .none kV29 dc29 pm29 an29 cd29 ct29), sl29⟩)
    (c29 : PySem.W.codeIn K cd29 "_law_mix" = true)
    (k29 : PySem.W.keepIn K (.ref f29) = true)
    (a30 : PySem.W.nsIn K mainGlobals "_law_draw" = some (some (.ref f30)))
    (l30 : K.lookup f30 = some ⟨oc30, od30, .func (PySem.W.fnOf "_law_draw" "_law_draw" (defArgs s__law_draw) (defBody s__law_draw) (defScope s__law_draw) .none kV30 dc30 pm30 an30 cd30 ct30), sl30⟩)
    (c30 : PySem.W.codeIn K cd30 "_law_draw" = true)
    (k30 : PySem.W.keepIn K (.ref f30) = true)
    (a31 : PySem.W.nsIn K mainGlobals "_law_pick" = some (some (.ref f31)))
    (l31 : K.lookup f31 = some ⟨oc31, od31, .func (PySem.W.fnOf "_law_pick" "_law_pick" (defArgs s__law_pick) (defBody s__law_pick) (defScope s__law_pick) .none kV31 dc31 pm31 an31 cd31 ct31), sl31⟩)
    (c31 : PySem.W.codeIn K cd31 "_law_pick" = true)
    (k31 : PySem.W.keepIn K (.ref f31) = true)
    (a32 : PySem.W.nsIn K mainGlobals "_law_refusal" = some (some (.ref f32)))
    (l32 : K.lookup f32 = some ⟨oc32, od32, .func (PySem.W.fnOf "_law_refusal" "_law_refusal" (defArgs s__law_refusal) (defBody s__law_refusal) (defScope s__law_refusal) .none kV32 dc32 pm32 an32 cd32 ct32), sl32⟩)
    (c32 : PySem.W.codeIn K cd32 "_law_refusal" = true)
    (k32 : PySem.W.keepIn K (.ref f32) = true)
    (a33 : PySem.W.nsIn K mainGlobals "_law_signs" = some (some (.ref f33)))
    (l33 : K.lookup f33 = some ⟨oc33, od33, .func (PySem.W.fnOf "_law_signs" "_law_signs" (defArgs s__law_signs) (defBody s__law_signs) (defScope s__law_signs) .none kV33 dc33 pm33 an33 cd33 ct33), sl33⟩)
    (c33 : PySem.W.codeIn K cd33 "_law_signs" = true)
    (k33 : PySem.W.keepIn K (.ref f33) = true)
    (a34 : PySem.W.nsIn K mainGlobals "_law_value" = some (some (.ref f34)))
    (l34 : K.lookup f34 = some ⟨oc34, od34, .func (PySem.W.fnOf "_law_value" "_law_value" (defArgs s__law_value) (defBody s__law_value) (defScope s__law_value) .none kV34 dc34 pm34 an34 cd34 ct34), sl34⟩)
    (c34 : PySem.W.codeIn K cd34 "_law_value" = true)
    (k34 : PySem.W.keepIn K (.ref f34) = true)
    (a35 : PySem.W.nsIn K mainGlobals "_law_board" = some (some (.ref f35)))
    (l35 : K.lookup f35 = some ⟨oc35, od35, .func (PySem.W.fnOf "_law_board" "_law_board" (defArgs s__law_board) (defBody s__law_board) (defScope s__law_board) .none kV35 dc35 pm35 an35 cd35 ct35), sl35⟩)
    (c35 : PySem.W.codeIn K cd35 "_law_board" = true)
    (k35 : PySem.W.keepIn K (.ref f35) = true)
    (a36 : PySem.W.nsIn K mainGlobals "_law_deed" = some (some (.ref f36)))
    (l36 : K.lookup f36 = some ⟨oc36, od36, .func (PySem.W.fnOf "_law_deed" "_law_deed" (defArgs s__law_deed) (defBody s__law_deed) (defScope s__law_deed) .none kV36 dc36 pm36 an36 cd36 ct36), sl36⟩)
    (c36 : PySem.W.codeIn K cd36 "_law_deed" = true)
    (k36 : PySem.W.keepIn K (.ref f36) = true)
    (a37 : PySem.W.nsIn K mainGlobals "_law_done" = some (some (.ref f37)))
    (l37 : K.lookup f37 = some ⟨oc37, od37, .func (PySem.W.fnOf "_law_done" "_law_done" (defArgs s__law_done) (defBody s__law_done) (defScope s__law_done) .none kV37 dc37 pm37 an37 cd37 ct37), sl37⟩)
    (c37 : PySem.W.codeIn K cd37 "_law_done" = true)
    (k37 : PySem.W.keepIn K (.ref f37) = true)
    (a38 : PySem.W.nsIn K mainGlobals "_law_edited" = some (some (.ref f38)))
    (l38 : K.lookup f38 = some ⟨oc38, od38, .func (PySem.W.fnOf "_law_edited" "_law_edited" (defArgs s__law_edited) (defBody s__law_edited) (defScope s__law_edited) .none kV38 dc38 pm38 an38 cd38 ct38), sl38⟩)
    (c38 : PySem.W.codeIn K cd38 "_law_edited" = true)
    (k38 : PySem.W.keepIn K (.ref f38) = true)
    (a39 : PySem.W.nsIn K mainGlobals "_law_told" = some (some (.ref f39)))
    (l39 : K.lookup f39 = some ⟨oc39, od39, .func (PySem.W.fnOf "_law_told" "_law_told" (defArgs s__law_told) (defBody s__law_told) (defScope s__law_told) .none kV39 dc39 pm39 an39 cd39 ct39), sl39⟩)
    (c39 : PySem.W.codeIn K cd39 "_law_told" = true)
    (k39 : PySem.W.keepIn K (.ref f39) = true)
    (a40 : PySem.W.nsIn K mainGlobals "_law_is_said" = some (some (.ref f40)))
    (l40 : K.lookup f40 = some ⟨oc40, od40, .func (PySem.W.fnOf "_law_is_said" "_law_is_said" (defArgs s__law_is_said) (defBody s__law_is_said) (defScope s__law_is_said) .none kV40 dc40 pm40 an40 cd40 ct40), sl40⟩)
    (c40 : PySem.W.codeIn K cd40 "_law_is_said" = true)
    (k40 : PySem.W.keepIn K (.ref f40) = true)
    (a41 : PySem.W.nsIn K mainGlobals "_law_turn" = some (some (.ref f41)))
    (l41 : K.lookup f41 = some ⟨oc41, od41, .func (PySem.W.fnOf "_law_turn" "_law_turn" (defArgs s__law_turn) (defBody s__law_turn) (defScope s__law_turn) .none kV41 dc41 pm41 an41 cd41 ct41), sl41⟩)
    (c41 : PySem.W.codeIn K cd41 "_law_turn" = true)
    (k41 : PySem.W.keepIn K (.ref f41) = true)
    (a42 : PySem.W.nsIn K mainGlobals "_law_nodes" = some (some (.ref f42)))
    (l42 : K.lookup f42 = some ⟨oc42, od42, .func (PySem.W.fnOf "_law_nodes" "_law_nodes" (defArgs s__law_nodes) (defBody s__law_nodes) (defScope s__law_nodes) .none kV42 dc42 pm42 an42 cd42 ct42), sl42⟩)
    (c42 : PySem.W.codeIn K cd42 "_law_nodes" = true)
    (k42 : PySem.W.keepIn K (.ref f42) = true)
    (a43 : PySem.W.nsIn K mainGlobals "law" = some (some (.ref f43)))
    (l43 : K.lookup f43 = some ⟨oc43, od43, .func (PySem.W.fnOf "law" "law" (defArgs s_law) (defBody s_law) (defScope s_law) .none kV43 dc43 pm43 an43 cd43 ct43), sl43⟩)
    (c43 : PySem.W.codeIn K cd43 "law" = true)
    (k43 : PySem.W.keepIn K (.ref f43) = true)
    (N_Node : PySem.W.nsIn K mainGlobals "Node" = some (some (.ref C_Node)))
    (pg_Node : PySem.W.plainGet K C_Node Str.empty = true)
    (hd_Node : PySem.W.hasDictIn K C_Node = true)
    (po_Node : PySem.W.plainOver K C_Node = true)
    (sa_Node : PySem.W.findIn K (.ref C_Node) "__setattr__" = some (some (.builtin "object.__setattr__")))
    (n_Node_origin : PySem.W.findIn K (.ref C_Node) "origin" = some none)
    (n_Node_deed : PySem.W.findIn K (.ref C_Node) "deed" = some none)
    (n_Node_other : PySem.W.findIn K (.ref C_Node) "other" = some none)
    (n_Node_comes : PySem.W.findIn K (.ref C_Node) "comes" = some none)
    (mk_Node : PySem.W.makesIn K C_Node = true)
    (kc_Node : PySem.W.keepIn K (.ref C_Node) = true)
    (N_Tree : PySem.W.nsIn K mainGlobals "Tree" = some (some (.ref C_Tree)))
    (pg_Tree : PySem.W.plainGet K C_Tree Str.empty = true)
    (hd_Tree : PySem.W.hasDictIn K C_Tree = true)
    (po_Tree : PySem.W.plainOver K C_Tree = true)
    (sa_Tree : PySem.W.findIn K (.ref C_Tree) "__setattr__" = some (some (.builtin "object.__setattr__")))
    (n_Tree_here_board : PySem.W.findIn K (.ref C_Tree) "here_board" = some none)
    (n_Tree_nodes : PySem.W.findIn K (.ref C_Tree) "nodes" = some none)
    (n_Tree_here : PySem.W.findIn K (.ref C_Tree) "here" = some none)
    (n_Tree_last : PySem.W.findIn K (.ref C_Tree) "last" = some none)
    (n_Tree_marked : PySem.W.findIn K (.ref C_Tree) "marked" = some none)
    (mk_Tree : PySem.W.makesIn K C_Tree = true)
    (kc_Tree : PySem.W.keepIn K (.ref C_Tree) = true)
    (z_abs : PySem.W.nsIn K mainGlobals "abs" = some none)
    (z_all : PySem.W.nsIn K mainGlobals "all" = some none)
    (z_any : PySem.W.nsIn K mainGlobals "any" = some none)
    (z_int : PySem.W.nsIn K mainGlobals "int" = some none)
    (z_isinstance : PySem.W.nsIn K mainGlobals "isinstance" = some none)
    (z_len : PySem.W.nsIn K mainGlobals "len" = some none)
    (z_list : PySem.W.nsIn K mainGlobals "list" = some none)
    (z_max : PySem.W.nsIn K mainGlobals "max" = some none)
    (z_ord : PySem.W.nsIn K mainGlobals "ord" = some none)
    (z_range : PySem.W.nsIn K mainGlobals "range" = some none)
    (z_sorted : PySem.W.nsIn K mainGlobals "sorted" = some none)
    (z_tuple : PySem.W.nsIn K mainGlobals "tuple" = some none)
    (iz_ValueError : PySem.W.nsIn K mainGlobals "ValueError" = some none)
    (g_MOST_NAMES : PySem.W.nsIn K mainGlobals "MOST_NAMES" = some (some (.int 20 t_MOST_NAMES)))
    (g_MOST_NUMBER : PySem.W.nsIn K mainGlobals "MOST_NUMBER" = some (some (.int 1000000000 t_MOST_NUMBER)))
    (g_MOST_ROW : PySem.W.nsIn K mainGlobals "MOST_ROW" = some (some (.int 40 t_MOST_ROW)))
    (g_MOST_TEXT : PySem.W.nsIn K mainGlobals "MOST_TEXT" = some (some (.int 200 t_MOST_TEXT)))
    (g_MOST_WORD : PySem.W.nsIn K mainGlobals "MOST_WORD" = some (some (.int 8 t_MOST_WORD)))
    (g_SMALL : PySem.W.nsIn K mainGlobals "SMALL" = some (some (.str "abcdefghijklmnopqrstuvwxyz" t_SMALL)))
    (g_KINDS : PySem.W.nsIn K mainGlobals "KINDS" = some (some (.ref p_KINDS)))
    (d_KINDS : K.lookup p_KINDS = some ⟨.type "dict", none, .dict es_KINDS n_KINDS, #[]⟩)
    (h_KINDS : PySem.W.KeysLit w.params es_KINDS.toList)
    (s_KINDS_ : (p_KINDS == sysModules) = false)
    (e_KINDS : Ents es_KINDS.toList [("write", .str "text"), ("cut", .str "text"), ("put", .str "row"), ("take", .str "row"), ("move", .str "row"), ("set", .str "number"), ("add", .str "number")])
    (g_SIZES : PySem.W.nsIn K mainGlobals "SIZES" = some (some (.ref p_SIZES)))
    (d_SIZES : K.lookup p_SIZES = some ⟨.type "dict", none, .dict es_SIZES n_SIZES, #[]⟩)
    (h_SIZES : PySem.W.KeysLit w.params es_SIZES.toList)
    (s_SIZES_ : (p_SIZES == sysModules) = false)
    (e_SIZES : Ents es_SIZES.toList [("whole", .int 3), ("drop", .int 2), ("rename", .int 3), ("write", .int 4), ("cut", .int 4), ("put", .int 4), ("take", .int 3), ("move", .int 4), ("set", .int 3), ("add", .int 3)])
    (x_BadBoard : PySem.W.nsIn K mainGlobals "BadBoard" = some (some (.ref C_BadBoard)))
    (xe_BadBoard : PySem.W.excIn K C_BadBoard [.type "ValueError", .type "Exception", .type "BaseException", .type "object"] "ValueError.__new__" = true)
    (xk_BadBoard : PySem.W.keepIn K (.ref C_BadBoard) = true)
    (xb_BadBoard : PySem.W.subIn K (.ref C_BadBoard) (.type "BaseException") = some true)
    (xt_BadBoard : PySem.W.typeIn K (.ref C_BadBoard) = some (.type "type"))
    (xi_BadBoard : PySem.W.isClsIn K C_BadBoard = true)
    (xg_BadBoard : PySem.W.findIn K (.ref C_BadBoard) "__getattribute__" = some (some (.builtin "BaseException.__getattribute__")))
    (xh_BadBoard : PySem.W.findIn K (.ref C_BadBoard) "__getattr__" = some none)
    (xc_BadBoard : PySem.W.findIn K (.ref C_BadBoard) "__class__" = some (some (.builtin "object.__class__")))
    (xo_BadBoard : PySem.W.mroIn K C_BadBoard (.type "object") = some true)
    (x_BadDeed : PySem.W.nsIn K mainGlobals "BadDeed" = some (some (.ref C_BadDeed)))
    (xe_BadDeed : PySem.W.excIn K C_BadDeed [.type "ValueError", .type "Exception", .type "BaseException", .type "object"] "ValueError.__new__" = true)
    (xk_BadDeed : PySem.W.keepIn K (.ref C_BadDeed) = true)
    (xb_BadDeed : PySem.W.subIn K (.ref C_BadDeed) (.type "BaseException") = some true)
    (xt_BadDeed : PySem.W.typeIn K (.ref C_BadDeed) = some (.type "type"))
    (xi_BadDeed : PySem.W.isClsIn K C_BadDeed = true)
    (xg_BadDeed : PySem.W.findIn K (.ref C_BadDeed) "__getattribute__" = some (some (.builtin "BaseException.__getattribute__")))
    (xh_BadDeed : PySem.W.findIn K (.ref C_BadDeed) "__getattr__" = some none)
    (xc_BadDeed : PySem.W.findIn K (.ref C_BadDeed) "__class__" = some (some (.builtin "object.__class__")))
    (xo_BadDeed : PySem.W.mroIn K C_BadDeed (.type "object") = some true)
    (x_BadNumber : PySem.W.nsIn K mainGlobals "BadNumber" = some (some (.ref C_BadNumber)))
    (xe_BadNumber : PySem.W.excIn K C_BadNumber [.type "ValueError", .type "Exception", .type "BaseException", .type "object"] "ValueError.__new__" = true)
    (xk_BadNumber : PySem.W.keepIn K (.ref C_BadNumber) = true)
    (xb_BadNumber : PySem.W.subIn K (.ref C_BadNumber) (.type "BaseException") = some true)
    (xt_BadNumber : PySem.W.typeIn K (.ref C_BadNumber) = some (.type "type"))
    (xi_BadNumber : PySem.W.isClsIn K C_BadNumber = true)
    (xg_BadNumber : PySem.W.findIn K (.ref C_BadNumber) "__getattribute__" = some (some (.builtin "BaseException.__getattribute__")))
    (xh_BadNumber : PySem.W.findIn K (.ref C_BadNumber) "__getattr__" = some none)
    (xc_BadNumber : PySem.W.findIn K (.ref C_BadNumber) "__class__" = some (some (.builtin "object.__class__")))
    (xo_BadNumber : PySem.W.mroIn K C_BadNumber (.type "object") = some true)
    (x_Clash : PySem.W.nsIn K mainGlobals "Clash" = some (some (.ref C_Clash)))
    (xb_Clash : PySem.W.subIn K (.ref C_Clash) (.type "BaseException") = some true)
    (xt_Clash : PySem.W.typeIn K (.ref C_Clash) = some (.type "type"))
    (xi_Clash : PySem.W.isClsIn K C_Clash = true)
    (xg_Clash : PySem.W.findIn K (.ref C_Clash) "__getattribute__" = some (some (.builtin "BaseException.__getattribute__")))
    (xh_Clash : PySem.W.findIn K (.ref C_Clash) "__getattr__" = some none)
    (xc_Clash : PySem.W.findIn K (.ref C_Clash) "__class__" = some (some (.builtin "object.__class__")))
    (xo_Clash : PySem.W.mroIn K C_Clash (.type "object") = some true)
    (x_Open : PySem.W.nsIn K mainGlobals "Open" = some (some (.ref C_Open)))
    (xb_Open : PySem.W.subIn K (.ref C_Open) (.type "BaseException") = some true)
    (xt_Open : PySem.W.typeIn K (.ref C_Open) = some (.type "type"))
    (xi_Open : PySem.W.isClsIn K C_Open = true)
    (xg_Open : PySem.W.findIn K (.ref C_Open) "__getattribute__" = some (some (.builtin "BaseException.__getattribute__")))
    (xh_Open : PySem.W.findIn K (.ref C_Open) "__getattr__" = some none)
    (xc_Open : PySem.W.findIn K (.ref C_Open) "__class__" = some (some (.builtin "object.__class__")))
    (xo_Open : PySem.W.mroIn K C_Open (.type "object") = some true)
    (x_Stuck : PySem.W.nsIn K mainGlobals "Stuck" = some (some (.ref C_Stuck)))
    (xe_Stuck : PySem.W.excIn K C_Stuck [.type "ValueError", .type "Exception", .type "BaseException", .type "object"] "ValueError.__new__" = true)
    (xk_Stuck : PySem.W.keepIn K (.ref C_Stuck) = true)
    (xb_Stuck : PySem.W.subIn K (.ref C_Stuck) (.type "BaseException") = some true)
    (xt_Stuck : PySem.W.typeIn K (.ref C_Stuck) = some (.type "type"))
    (xi_Stuck : PySem.W.isClsIn K C_Stuck = true)
    (xg_Stuck : PySem.W.findIn K (.ref C_Stuck) "__getattribute__" = some (some (.builtin "BaseException.__getattribute__")))
    (xh_Stuck : PySem.W.findIn K (.ref C_Stuck) "__getattr__" = some none)
    (xc_Stuck : PySem.W.findIn K (.ref C_Stuck) "__class__" = some (some (.builtin "object.__class__")))
    (xo_Stuck : PySem.W.mroIn K C_Stuck (.type "object") = some true)
    (x_UndoError : PySem.W.nsIn K mainGlobals "UndoError" = some (some (.ref C_UndoError)))
    (xb_UndoError : PySem.W.subIn K (.ref C_UndoError) (.type "BaseException") = some true)
    (xt_UndoError : PySem.W.typeIn K (.ref C_UndoError) = some (.type "type"))
    (xi_UndoError : PySem.W.isClsIn K C_UndoError = true)
    (og : PySem.W.specialIn K (.builtin "object.__class__") "__get__" = some (some (.builtin "getset_descriptor.__get__")))
    (ot : PySem.W.takesIn K (.builtin "object.__class__") = some true)
    (sb_BadDeed_BadBoard : PySem.W.subIn K (.ref C_BadDeed) (.ref C_BadBoard) = some false)
    (sb_BadBoard_BadBoard : PySem.W.subIn K (.ref C_BadBoard) (.ref C_BadBoard) = some true)
    (sb_BadNumber_BadBoard : PySem.W.subIn K (.ref C_BadNumber) (.ref C_BadBoard) = some false)
    (sb_Stuck_BadBoard : PySem.W.subIn K (.ref C_Stuck) (.ref C_BadBoard) = some false)
    (sb_Open_BadBoard : PySem.W.subIn K (.ref C_Open) (.ref C_BadBoard) = some false)
    (sb_Clash_BadBoard : PySem.W.subIn K (.ref C_Clash) (.ref C_BadBoard) = some false)
    (ne_BadDeed_BadBoard : (Value.ref C_BadDeed == Value.ref C_BadBoard) = false)
    (ne_BadNumber_BadBoard : (Value.ref C_BadNumber == Value.ref C_BadBoard) = false)
    (ne_Stuck_BadBoard : (Value.ref C_Stuck == Value.ref C_BadBoard) = false)
    (ne_Open_BadBoard : (Value.ref C_Open == Value.ref C_BadBoard) = false)
    (ne_Clash_BadBoard : (Value.ref C_Clash == Value.ref C_BadBoard) = false)
    (sb_BadDeed_BadDeed : PySem.W.subIn K (.ref C_BadDeed) (.ref C_BadDeed) = some true)
    (sb_BadBoard_BadDeed : PySem.W.subIn K (.ref C_BadBoard) (.ref C_BadDeed) = some false)
    (sb_BadNumber_BadDeed : PySem.W.subIn K (.ref C_BadNumber) (.ref C_BadDeed) = some false)
    (sb_Stuck_BadDeed : PySem.W.subIn K (.ref C_Stuck) (.ref C_BadDeed) = some false)
    (sb_Open_BadDeed : PySem.W.subIn K (.ref C_Open) (.ref C_BadDeed) = some false)
    (sb_Clash_BadDeed : PySem.W.subIn K (.ref C_Clash) (.ref C_BadDeed) = some false)
    (ne_BadBoard_BadDeed : (Value.ref C_BadBoard == Value.ref C_BadDeed) = false)
    (ne_BadNumber_BadDeed : (Value.ref C_BadNumber == Value.ref C_BadDeed) = false)
    (ne_Stuck_BadDeed : (Value.ref C_Stuck == Value.ref C_BadDeed) = false)
    (ne_Open_BadDeed : (Value.ref C_Open == Value.ref C_BadDeed) = false)
    (ne_Clash_BadDeed : (Value.ref C_Clash == Value.ref C_BadDeed) = false)
    (sb_BadDeed_BadNumber : PySem.W.subIn K (.ref C_BadDeed) (.ref C_BadNumber) = some false)
    (sb_BadBoard_BadNumber : PySem.W.subIn K (.ref C_BadBoard) (.ref C_BadNumber) = some false)
    (sb_BadNumber_BadNumber : PySem.W.subIn K (.ref C_BadNumber) (.ref C_BadNumber) = some true)
    (sb_Stuck_BadNumber : PySem.W.subIn K (.ref C_Stuck) (.ref C_BadNumber) = some false)
    (sb_Open_BadNumber : PySem.W.subIn K (.ref C_Open) (.ref C_BadNumber) = some false)
    (sb_Clash_BadNumber : PySem.W.subIn K (.ref C_Clash) (.ref C_BadNumber) = some false)
    (ne_BadDeed_BadNumber : (Value.ref C_BadDeed == Value.ref C_BadNumber) = false)
    (ne_BadBoard_BadNumber : (Value.ref C_BadBoard == Value.ref C_BadNumber) = false)
    (ne_Stuck_BadNumber : (Value.ref C_Stuck == Value.ref C_BadNumber) = false)
    (ne_Open_BadNumber : (Value.ref C_Open == Value.ref C_BadNumber) = false)
    (ne_Clash_BadNumber : (Value.ref C_Clash == Value.ref C_BadNumber) = false)
    (sb_BadDeed_Clash : PySem.W.subIn K (.ref C_BadDeed) (.ref C_Clash) = some false)
    (sb_BadBoard_Clash : PySem.W.subIn K (.ref C_BadBoard) (.ref C_Clash) = some false)
    (sb_BadNumber_Clash : PySem.W.subIn K (.ref C_BadNumber) (.ref C_Clash) = some false)
    (sb_Stuck_Clash : PySem.W.subIn K (.ref C_Stuck) (.ref C_Clash) = some false)
    (sb_Open_Clash : PySem.W.subIn K (.ref C_Open) (.ref C_Clash) = some false)
    (sb_Clash_Clash : PySem.W.subIn K (.ref C_Clash) (.ref C_Clash) = some true)
    (ne_BadDeed_Clash : (Value.ref C_BadDeed == Value.ref C_Clash) = false)
    (ne_BadBoard_Clash : (Value.ref C_BadBoard == Value.ref C_Clash) = false)
    (ne_BadNumber_Clash : (Value.ref C_BadNumber == Value.ref C_Clash) = false)
    (ne_Stuck_Clash : (Value.ref C_Stuck == Value.ref C_Clash) = false)
    (ne_Open_Clash : (Value.ref C_Open == Value.ref C_Clash) = false)
    (sb_BadDeed_Open : PySem.W.subIn K (.ref C_BadDeed) (.ref C_Open) = some false)
    (sb_BadBoard_Open : PySem.W.subIn K (.ref C_BadBoard) (.ref C_Open) = some false)
    (sb_BadNumber_Open : PySem.W.subIn K (.ref C_BadNumber) (.ref C_Open) = some false)
    (sb_Stuck_Open : PySem.W.subIn K (.ref C_Stuck) (.ref C_Open) = some false)
    (sb_Open_Open : PySem.W.subIn K (.ref C_Open) (.ref C_Open) = some true)
    (sb_Clash_Open : PySem.W.subIn K (.ref C_Clash) (.ref C_Open) = some false)
    (ne_BadDeed_Open : (Value.ref C_BadDeed == Value.ref C_Open) = false)
    (ne_BadBoard_Open : (Value.ref C_BadBoard == Value.ref C_Open) = false)
    (ne_BadNumber_Open : (Value.ref C_BadNumber == Value.ref C_Open) = false)
    (ne_Stuck_Open : (Value.ref C_Stuck == Value.ref C_Open) = false)
    (ne_Clash_Open : (Value.ref C_Clash == Value.ref C_Open) = false)
    (sb_BadDeed_Stuck : PySem.W.subIn K (.ref C_BadDeed) (.ref C_Stuck) = some false)
    (sb_BadBoard_Stuck : PySem.W.subIn K (.ref C_BadBoard) (.ref C_Stuck) = some false)
    (sb_BadNumber_Stuck : PySem.W.subIn K (.ref C_BadNumber) (.ref C_Stuck) = some false)
    (sb_Stuck_Stuck : PySem.W.subIn K (.ref C_Stuck) (.ref C_Stuck) = some true)
    (sb_Open_Stuck : PySem.W.subIn K (.ref C_Open) (.ref C_Stuck) = some false)
    (sb_Clash_Stuck : PySem.W.subIn K (.ref C_Clash) (.ref C_Stuck) = some false)
    (ne_BadDeed_Stuck : (Value.ref C_BadDeed == Value.ref C_Stuck) = false)
    (ne_BadBoard_Stuck : (Value.ref C_BadBoard == Value.ref C_Stuck) = false)
    (ne_BadNumber_Stuck : (Value.ref C_BadNumber == Value.ref C_Stuck) = false)
    (ne_Open_Stuck : (Value.ref C_Open == Value.ref C_Stuck) = false)
    (ne_Clash_Stuck : (Value.ref C_Clash == Value.ref C_Stuck) = false)
    (sb_BadDeed_UndoError : PySem.W.subIn K (.ref C_BadDeed) (.ref C_UndoError) = some true)
    (sb_BadBoard_UndoError : PySem.W.subIn K (.ref C_BadBoard) (.ref C_UndoError) = some true)
    (sb_BadNumber_UndoError : PySem.W.subIn K (.ref C_BadNumber) (.ref C_UndoError) = some true)
    (sb_Stuck_UndoError : PySem.W.subIn K (.ref C_Stuck) (.ref C_UndoError) = some true)
    (sb_Open_UndoError : PySem.W.subIn K (.ref C_Open) (.ref C_UndoError) = some true)
    (sb_Clash_UndoError : PySem.W.subIn K (.ref C_Clash) (.ref C_UndoError) = some true)
    (sv_BadDeed : PySem.W.subIn K (.ref C_BadDeed) (.type "ValueError") = some true)
    (sv_BadBoard : PySem.W.subIn K (.ref C_BadBoard) (.type "ValueError") = some true)
    (sv_BadNumber : PySem.W.subIn K (.ref C_BadNumber) (.type "ValueError") = some true)
    (sv_Stuck : PySem.W.subIn K (.ref C_Stuck) (.type "ValueError") = some true)
    (sv_Open : PySem.W.subIn K (.ref C_Open) (.type "ValueError") = some true)
    (sv_Clash : PySem.W.subIn K (.ref C_Clash) (.type "ValueError") = some true) :
    ∃ fd : FuncData, (∀ (s : Shared) (v : Value), BindsTo s fd ⟨[v], []⟩ [("_law_script", v)]) ∧ ∀ base : Heap, K.In base → base.Ns mainGlobals mg → FnOk P w K mg base (L2.CX P w) 9 fa fd ["_law_script"] (spLaw K) := by
  have e := hfa.symm.trans (PySem.W.mg_of X G a43)
  cases e
  let a : Str → Addr := fun s => if s = "Node" then C_Node else if s = "Tree" then C_Tree else if s = "BadBoard" then C_BadBoard else if s = "BadDeed" then C_BadDeed else if s = "BadNumber" then C_BadNumber else if s = "Clash" then C_Clash else if s = "Open" then C_Open else if s = "Stuck" then C_Stuck else if s = "UndoError" then C_UndoError else 0
  let x : Ad := { a := a, f_is_word := f0, fd_is_word := PySem.W.fnOf "is_word" "is_word" (defArgs s_is_word) (defBody s_is_word) (defScope s_is_word) .none kV0 dc0 pm0 an0 cd0 ct0, f_is_text := f1, fd_is_text := PySem.W.fnOf "is_text" "is_text" (defArgs s_is_text) (defBody s_is_text) (defScope s_is_text) .none kV1 dc1 pm1 an1 cd1 ct1, f_is_value := f2, fd_is_value := PySem.W.fnOf "is_value" "is_value" (defArgs s_is_value) (defBody s_is_value) (defScope s_is_value) .none kV2 dc2 pm2 an2 cd2 ct2, f_look_board := f3, fd_look_board := PySem.W.fnOf "look_board" "look_board" (defArgs s_look_board) (defBody s_look_board) (defScope s_look_board) .none kV3 dc3 pm3 an3 cd3 ct3, f_must := f4, fd_must := PySem.W.fnOf "must" "must" (defArgs s_must) (defBody s_must) (defScope s_must) .none kV4 dc4 pm4 an4 cd4 ct4, f_look_deed := f5, fd_look_deed := PySem.W.fnOf "look_deed" "look_deed" (defArgs s_look_deed) (defBody s_look_deed) (defScope s_look_deed) .none kV5 dc5 pm5 an5 cd5 ct5, f_with_value := f6, fd_with_value := PySem.W.fnOf "with_value" "with_value" (defArgs s_with_value) (defBody s_with_value) (defScope s_with_value) .none kV6 dc6 pm6 an6 cd6 ct6, f_without := f7, fd_without := PySem.W.fnOf "without" "without" (defArgs s_without) (defBody s_without) (defScope s_without) .none kV7 dc7 pm7 an7 cd7 ct7, f_on_names := f8, fd_on_names := PySem.W.fnOf "on_names" "on_names" (defArgs s_on_names) (defBody s_on_names) (defScope s_on_names) .none kV8 dc8 pm8 an8 cd8 ct8, f_on_text := f9, fd_on_text := PySem.W.fnOf "on_text" "on_text" (defArgs s_on_text) (defBody s_on_text) (defScope s_on_text) .none kV9 dc9 pm9 an9 cd9 ct9, f_on_row := f10, fd_on_row := PySem.W.fnOf "on_row" "on_row" (defArgs s_on_row) (defBody s_on_row) (defScope s_on_row) .none kV10 dc10 pm10 an10 cd10 ct10, f_done := f11, fd_done := PySem.W.fnOf "done" "done" (defArgs s_done) (defBody s_done) (defScope s_done) .none kV11 dc11 pm11 an11 cd11 ct11, f_back := f12, fd_back := PySem.W.fnOf "back" "back" (defArgs s_back) (defBody s_back) (defScope s_back) .none kV12 dc12 pm12 an12 cd12 ct12, f_all_done := f13, fd_all_done := PySem.W.fnOf "all_done" "all_done" (defArgs s_all_done) (defBody s_all_done) (defScope s_all_done) .none kV13 dc13 pm13 an13 cd13 ct13, f_Node_init := f14, fd_Node_init := PySem.W.fnOf "__init__" "Node.__init__" (defArgs s_Node_init) (defBody s_Node_init) (defScope s_Node_init) .none kV14 dc14 pm14 an14 cd14 ct14, f_Tree_init := f15, fd_Tree_init := PySem.W.fnOf "__init__" "Tree.__init__" (defArgs s_Tree_init) (defBody s_Tree_init) (defScope s_Tree_init) .none kV15 dc15 pm15 an15 cd15 ct15, f_Tree_board := f16, fd_Tree_board := PySem.W.fnOf "board" "Tree.board" (defArgs s_Tree_board) (defBody s_Tree_board) (defScope s_Tree_board) .none kV16 dc16 pm16 an16 cd16 ct16, f_Tree_at := f17, fd_Tree_at := PySem.W.fnOf "at" "Tree.at" (defArgs s_Tree_at) (defBody s_Tree_at) (defScope s_Tree_at) .none kV17 dc17 pm17 an17 cd17 ct17, f_Tree_need := f18, fd_Tree_need := PySem.W.fnOf "need" "Tree.need" (defArgs s_Tree_need) (defBody s_Tree_need) (defScope s_Tree_need) .none kV18 dc18 pm18 an18 cd18 ct18, f_Tree_do := f19, fd_Tree_do := PySem.W.fnOf "do" "Tree.do" (defArgs s_Tree_do) (defBody s_Tree_do) (defScope s_Tree_do) .none kV19 dc19 pm19 an19 cd19 ct19, f_Tree_above := f20, fd_Tree_above := PySem.W.fnOf "above" "Tree.above" (defArgs s_Tree_above) (defBody s_Tree_above) (defScope s_Tree_above) .none kV20 dc20 pm20 an20 cd20 ct20, f_Tree_path := f21, fd_Tree_path := PySem.W.fnOf "path" "Tree.path" (defArgs s_Tree_path) (defBody s_Tree_path) (defScope s_Tree_path) .none kV21 dc21 pm21 an21 cd21 ct21, f_Tree_between := f22, fd_Tree_between := PySem.W.fnOf "between" "Tree.between" (defArgs s_Tree_between) (defBody s_Tree_between) (defScope s_Tree_between) .none kV22 dc22 pm22 an22 cd22 ct22, f_Tree_go := f23, fd_Tree_go := PySem.W.fnOf "go" "Tree.go" (defArgs s_Tree_go) (defBody s_Tree_go) (defScope s_Tree_go) .none kV23 dc23 pm23 an23 cd23 ct23, f_Tree_parent := f24, fd_Tree_parent := PySem.W.fnOf "parent" "Tree.parent" (defArgs s_Tree_parent) (defBody s_Tree_parent) (defScope s_Tree_parent) .none kV24 dc24 pm24 an24 cd24 ct24, f_Tree_children := f25, fd_Tree_children := PySem.W.fnOf "children" "Tree.children" (defArgs s_Tree_children) (defBody s_Tree_children) (defScope s_Tree_children) .none kV25 dc25 pm25 an25 cd25 ct25, f_Tree_tips := f26, fd_Tree_tips := PySem.W.fnOf "tips" "Tree.tips" (defArgs s_Tree_tips) (defBody s_Tree_tips) (defScope s_Tree_tips) .none kV26 dc26 pm26 an26 cd26 ct26, f_Tree_many := f27, fd_Tree_many := PySem.W.fnOf "many" "Tree.many" (defArgs s_Tree_many) (defBody s_Tree_many) (defScope s_Tree_many) .none kV27 dc27 pm27 an27 cd27 ct27, f__law_cell := f28, fd__law_cell := PySem.W.fnOf "_law_cell" "_law_cell" (defArgs s__law_cell) (defBody s__law_cell) (defScope s__law_cell) .none kV28 dc28 pm28 an28 cd28 ct28, f__law_mix := f29, fd__law_mix := PySem.W.fnOf "_law_mix" "_law_mix" (defArgs s__law_mix) (defBody s__law_mix) (defScope s__law_mix) .none kV29 dc29 pm29 an29 cd29 ct29, f__law_draw := f30, fd__law_draw := PySem.W.fnOf "_law_draw" "_law_draw" (defArgs s__law_draw) (defBody s__law_draw) (defScope s__law_draw) .none kV30 dc30 pm30 an30 cd30 ct30, f__law_pick := f31, fd__law_pick := PySem.W.fnOf "_law_pick" "_law_pick" (defArgs s__law_pick) (defBody s__law_pick) (defScope s__law_pick) .none kV31 dc31 pm31 an31 cd31 ct31, f__law_refusal := f32, fd__law_refusal := PySem.W.fnOf "_law_refusal" "_law_refusal" (defArgs s__law_refusal) (defBody s__law_refusal) (defScope s__law_refusal) .none kV32 dc32 pm32 an32 cd32 ct32, f__law_signs := f33, fd__law_signs := PySem.W.fnOf "_law_signs" "_law_signs" (defArgs s__law_signs) (defBody s__law_signs) (defScope s__law_signs) .none kV33 dc33 pm33 an33 cd33 ct33, f__law_value := f34, fd__law_value := PySem.W.fnOf "_law_value" "_law_value" (defArgs s__law_value) (defBody s__law_value) (defScope s__law_value) .none kV34 dc34 pm34 an34 cd34 ct34, f__law_board := f35, fd__law_board := PySem.W.fnOf "_law_board" "_law_board" (defArgs s__law_board) (defBody s__law_board) (defScope s__law_board) .none kV35 dc35 pm35 an35 cd35 ct35, f__law_deed := f36, fd__law_deed := PySem.W.fnOf "_law_deed" "_law_deed" (defArgs s__law_deed) (defBody s__law_deed) (defScope s__law_deed) .none kV36 dc36 pm36 an36 cd36 ct36, f__law_done := f37, fd__law_done := PySem.W.fnOf "_law_done" "_law_done" (defArgs s__law_done) (defBody s__law_done) (defScope s__law_done) .none kV37 dc37 pm37 an37 cd37 ct37, f__law_edited := f38, fd__law_edited := PySem.W.fnOf "_law_edited" "_law_edited" (defArgs s__law_edited) (defBody s__law_edited) (defScope s__law_edited) .none kV38 dc38 pm38 an38 cd38 ct38, f__law_told := f39, fd__law_told := PySem.W.fnOf "_law_told" "_law_told" (defArgs s__law_told) (defBody s__law_told) (defScope s__law_told) .none kV39 dc39 pm39 an39 cd39 ct39, f__law_is_said := f40, fd__law_is_said := PySem.W.fnOf "_law_is_said" "_law_is_said" (defArgs s__law_is_said) (defBody s__law_is_said) (defScope s__law_is_said) .none kV40 dc40 pm40 an40 cd40 ct40, f__law_turn := f41, fd__law_turn := PySem.W.fnOf "_law_turn" "_law_turn" (defArgs s__law_turn) (defBody s__law_turn) (defScope s__law_turn) .none kV41 dc41 pm41 an41 cd41 ct41, f__law_nodes := f42, fd__law_nodes := PySem.W.fnOf "_law_nodes" "_law_nodes" (defArgs s__law_nodes) (defBody s__law_nodes) (defScope s__law_nodes) .none kV42 dc42 pm42 an42 cd42 ct42, f_law := fa, fd_law := PySem.W.fnOf "law" "law" (defArgs s_law) (defBody s_law) (defScope s_law) .none kV43 dc43 pm43 an43 cd43 ct43 }
  have ha_Node : x.a "Node" = C_Node := by simp [x, a]
  have ha_Tree : x.a "Tree" = C_Tree := by simp [x, a]
  have ha_BadBoard : x.a "BadBoard" = C_BadBoard := by simp [x, a]
  have ha_BadDeed : x.a "BadDeed" = C_BadDeed := by simp [x, a]
  have ha_BadNumber : x.a "BadNumber" = C_BadNumber := by simp [x, a]
  have ha_Clash : x.a "Clash" = C_Clash := by simp [x, a]
  have ha_Open : x.a "Open" = C_Open := by simp [x, a]
  have ha_Stuck : x.a "Stuck" = C_Stuck := by simp [x, a]
  have ha_UndoError : x.a "UndoError" = C_UndoError := by simp [x, a]
  have F0 := fun_mk (st := s_is_word) l0 c0 k0
  have F1 := fun_mk (st := s_is_text) l1 c1 k1
  have F2 := fun_mk (st := s_is_value) l2 c2 k2
  have F3 := fun_mk (st := s_look_board) l3 c3 k3
  have F4 := fun_mk (st := s_must) l4 c4 k4
  have F5 := fun_mk (st := s_look_deed) l5 c5 k5
  have F6 := fun_mk (st := s_with_value) l6 c6 k6
  have F7 := fun_mk (st := s_without) l7 c7 k7
  have F8 := fun_mk (st := s_on_names) l8 c8 k8
  have F9 := fun_mk (st := s_on_text) l9 c9 k9
  have F10 := fun_mk (st := s_on_row) l10 c10 k10
  have F11 := fun_mk (st := s_done) l11 c11 k11
  have F12 := fun_mk (st := s_back) l12 c12 k12
  have F13 := fun_mk (st := s_all_done) l13 c13 k13
  have F14 := fun_mk (st := s_Node_init) l14 c14 k14
  have F15 := fun_mk (st := s_Tree_init) l15 c15 k15
  have F16 := fun_mk (st := s_Tree_board) l16 c16 k16
  have F17 := fun_mk (st := s_Tree_at) l17 c17 k17
  have F18 := fun_mk (st := s_Tree_need) l18 c18 k18
  have F19 := fun_mk (st := s_Tree_do) l19 c19 k19
  have F20 := fun_mk (st := s_Tree_above) l20 c20 k20
  have F21 := fun_mk (st := s_Tree_path) l21 c21 k21
  have F22 := fun_mk (st := s_Tree_between) l22 c22 k22
  have F23 := fun_mk (st := s_Tree_go) l23 c23 k23
  have F24 := fun_mk (st := s_Tree_parent) l24 c24 k24
  have F25 := fun_mk (st := s_Tree_children) l25 c25 k25
  have F26 := fun_mk (st := s_Tree_tips) l26 c26 k26
  have F27 := fun_mk (st := s_Tree_many) l27 c27 k27
  have F28 := fun_mk (st := s__law_cell) l28 c28 k28
  have F29 := fun_mk (st := s__law_mix) l29 c29 k29
  have F30 := fun_mk (st := s__law_draw) l30 c30 k30
  have F31 := fun_mk (st := s__law_pick) l31 c31 k31
  have F32 := fun_mk (st := s__law_refusal) l32 c32 k32
  have F33 := fun_mk (st := s__law_signs) l33 c33 k33
  have F34 := fun_mk (st := s__law_value) l34 c34 k34
  have F35 := fun_mk (st := s__law_board) l35 c35 k35
  have F36 := fun_mk (st := s__law_deed) l36 c36 k36
  have F37 := fun_mk (st := s__law_done) l37 c37 k37
  have F38 := fun_mk (st := s__law_edited) l38 c38 k38
  have F39 := fun_mk (st := s__law_told) l39 c39 k39
  have F40 := fun_mk (st := s__law_is_said) l40 c40 k40
  have F41 := fun_mk (st := s__law_turn) l41 c41 k41
  have F42 := fun_mk (st := s__law_nodes) l42 c42 k42
  have F43 := fun_mk (st := s_law) l43 c43 k43
  have xcBadBoard : XcK K C_BadBoard := ⟨xi_BadBoard, xg_BadBoard, xh_BadBoard, xb_BadBoard, xc_BadBoard, og, ot, xo_BadBoard⟩
  have xcBadDeed : XcK K C_BadDeed := ⟨xi_BadDeed, xg_BadDeed, xh_BadDeed, xb_BadDeed, xc_BadDeed, og, ot, xo_BadDeed⟩
  have xcBadNumber : XcK K C_BadNumber := ⟨xi_BadNumber, xg_BadNumber, xh_BadNumber, xb_BadNumber, xc_BadNumber, og, ot, xo_BadNumber⟩
  have xcClash : XcK K C_Clash := ⟨xi_Clash, xg_Clash, xh_Clash, xb_Clash, xc_Clash, og, ot, xo_Clash⟩
  have xcOpen : XcK K C_Open := ⟨xi_Open, xg_Open, xh_Open, xb_Open, xc_Open, og, ot, xo_Open⟩
  have xcStuck : XcK K C_Stuck := ⟨xi_Stuck, xg_Stuck, xh_Stuck, xb_Stuck, xc_Stuck, og, ot, xo_Stuck⟩
  have T : Txt K w mg x := {
    m_is_word := PySem.W.mg_of X G a0,
    F_is_word := F0, b_is_word := F0.binds (ps := ["thing"]) fun _ _ _ _ _ _ us hl => match us, hl with | [_], _ => rfl,
    m_is_text := PySem.W.mg_of X G a1,
    F_is_text := F1, b_is_text := F1.binds (ps := ["thing"]) fun _ _ _ _ _ _ us hl => match us, hl with | [_], _ => rfl,
    m_is_value := PySem.W.mg_of X G a2,
    F_is_value := F2, b_is_value := F2.binds (ps := ["value"]) fun _ _ _ _ _ _ us hl => match us, hl with | [_], _ => rfl,
    m_look_board := PySem.W.mg_of X G a3,
    F_look_board := F3, b_look_board := F3.binds (ps := ["board"]) fun _ _ _ _ _ _ us hl => match us, hl with | [_], _ => rfl,
    m_must := PySem.W.mg_of X G a4,
    F_must := F4, b_must := F4.binds (ps := ["right"]) fun _ _ _ _ _ _ us hl => match us, hl with | [_], _ => rfl,
    m_look_deed := PySem.W.mg_of X G a5,
    F_look_deed := F5, b_look_deed := F5.binds (ps := ["deed"]) fun _ _ _ _ _ _ us hl => match us, hl with | [_], _ => rfl,
    m_with_value := PySem.W.mg_of X G a6,
    F_with_value := F6, b_with_value := F6.binds (ps := ["board", "name", "value"]) fun _ _ _ _ _ _ us hl => match us, hl with | [_, _, _], _ => rfl,
    m_without := PySem.W.mg_of X G a7,
    F_without := F7, b_without := F7.binds (ps := ["board", "name"]) fun _ _ _ _ _ _ us hl => match us, hl with | [_, _], _ => rfl,
    m_on_names := PySem.W.mg_of X G a8,
    F_on_names := F8, b_on_names := F8.binds (ps := ["board", "deed"]) fun _ _ _ _ _ _ us hl => match us, hl with | [_, _], _ => rfl,
    m_on_text := PySem.W.mg_of X G a9,
    F_on_text := F9, b_on_text := F9.binds (ps := ["text", "deed"]) fun _ _ _ _ _ _ us hl => match us, hl with | [_, _], _ => rfl,
    m_on_row := PySem.W.mg_of X G a10,
    F_on_row := F10, b_on_row := F10.binds (ps := ["row", "deed"]) fun _ _ _ _ _ _ us hl => match us, hl with | [_, _], _ => rfl,
    m_done := PySem.W.mg_of X G a11,
    F_done := F11, b_done := F11.binds (ps := ["board", "deed"]) fun _ _ _ _ _ _ us hl => match us, hl with | [_, _], _ => rfl,
    m_back := PySem.W.mg_of X G a12,
    F_back := F12, b_back := F12.binds (ps := ["board", "deed"]) fun _ _ _ _ _ _ us hl => match us, hl with | [_, _], _ => rfl,
    m_all_done := PySem.W.mg_of X G a13,
    F_all_done := F13, b_all_done := F13.binds (ps := ["board", "deeds"]) fun _ _ _ _ _ _ us hl => match us, hl with | [_, _], _ => rfl,
    F_Node_init := F14, b_Node_init := F14.binds (ps := ["self", "parent", "deed", "other"]) fun _ _ _ _ _ _ us hl => match us, hl with | [_, _, _, _], _ => rfl,
    F_Tree_init := F15, b_Tree_init := F15.binds (ps := ["self", "board"]) fun _ _ _ _ _ _ us hl => match us, hl with | [_, _], _ => rfl,
    me_Tree_board := by rw [ha_Tree]; exact ⟨a16, i16, k16⟩,
    F_Tree_board := F16, b_Tree_board := F16.binds (ps := ["self"]) fun _ _ _ _ _ _ us hl => match us, hl with | [_], _ => rfl,
    me_Tree_at := by rw [ha_Tree]; exact ⟨a17, i17, k17⟩,
    F_Tree_at := F17, b_Tree_at := F17.binds (ps := ["self"]) fun _ _ _ _ _ _ us hl => match us, hl with | [_], _ => rfl,
    me_Tree_need := by rw [ha_Tree]; exact ⟨a18, i18, k18⟩,
    F_Tree_need := F18, b_Tree_need := F18.binds (ps := ["self", "node"]) fun _ _ _ _ _ _ us hl => match us, hl with | [_, _], _ => rfl,
    me_Tree_do := by rw [ha_Tree]; exact ⟨a19, i19, k19⟩,
    F_Tree_do := F19, b_Tree_do := F19.binds (ps := ["self", "deed"]) fun _ _ _ _ _ _ us hl => match us, hl with | [_, _], _ => rfl,
    me_Tree_above := by rw [ha_Tree]; exact ⟨a20, i20, k20⟩,
    F_Tree_above := F20, b_Tree_above := F20.binds (ps := ["self", "node"]) fun _ _ _ _ _ _ us hl => match us, hl with | [_, _], _ => rfl,
    me_Tree_path := by rw [ha_Tree]; exact ⟨a21, i21, k21⟩,
    F_Tree_path := F21, b_Tree_path := F21.binds (ps := ["self", "one", "other"]) fun _ _ _ _ _ _ us hl => match us, hl with | [_, _, _], _ => rfl,
    me_Tree_between := by rw [ha_Tree]; exact ⟨a22, i22, k22⟩,
    F_Tree_between := F22, b_Tree_between := F22.binds (ps := ["self", "one", "other"]) fun _ _ _ _ _ _ us hl => match us, hl with | [_, _, _], _ => rfl,
    me_Tree_go := by rw [ha_Tree]; exact ⟨a23, i23, k23⟩,
    F_Tree_go := F23, b_Tree_go := F23.binds (ps := ["self", "node"]) fun _ _ _ _ _ _ us hl => match us, hl with | [_, _], _ => rfl,
    me_Tree_parent := by rw [ha_Tree]; exact ⟨a24, i24, k24⟩,
    F_Tree_parent := F24, b_Tree_parent := F24.binds (ps := ["self", "node"]) fun _ _ _ _ _ _ us hl => match us, hl with | [_, _], _ => rfl,
    me_Tree_children := by rw [ha_Tree]; exact ⟨a25, i25, k25⟩,
    F_Tree_children := F25, b_Tree_children := F25.binds (ps := ["self", "node"]) fun _ _ _ _ _ _ us hl => match us, hl with | [_, _], _ => rfl,
    me_Tree_tips := by rw [ha_Tree]; exact ⟨a26, i26, k26⟩,
    F_Tree_tips := F26, b_Tree_tips := F26.binds (ps := ["self"]) fun _ _ _ _ _ _ us hl => match us, hl with | [_], _ => rfl,
    me_Tree_many := by rw [ha_Tree]; exact ⟨a27, i27, k27⟩,
    F_Tree_many := F27, b_Tree_many := F27.binds (ps := ["self"]) fun _ _ _ _ _ _ us hl => match us, hl with | [_], _ => rfl,
    m__law_cell := PySem.W.mg_of X G a28,
    F__law_cell := F28, b__law_cell := F28.binds (ps := ["_law_script", "_law_k"]) fun _ _ _ _ _ _ us hl => match us, hl with | [_, _], _ => rfl,
    m__law_mix := PySem.W.mg_of X G a29,
    F__law_mix := F29, b__law_mix := F29.binds (ps := ["_law_script", "_law_k"]) fun _ _ _ _ _ _ us hl => match us, hl with | [_, _], _ => rfl,
    m__law_draw := PySem.W.mg_of X G a30,
    F__law_draw := F30, b__law_draw := F30.binds (ps := ["_law_script", "_law_town", "_law_many"]) fun _ _ _ _ _ _ us hl => match us, hl with | [_, _, _], _ => rfl,
    m__law_pick := PySem.W.mg_of X G a31,
    F__law_pick := F31, b__law_pick := F31.binds (ps := ["_law_script", "_law_town", "_law_some"]) fun _ _ _ _ _ _ us hl => match us, hl with | [_, _, _], _ => rfl,
    m__law_refusal := PySem.W.mg_of X G a32,
    F__law_refusal := F32, b__law_refusal := F32.binds (ps := ["_law_held"]) fun _ _ _ _ _ _ us hl => match us, hl with | [_], _ => rfl,
    m__law_signs := PySem.W.mg_of X G a33,
    F__law_signs := F33, b__law_signs := F33.binds (ps := ["_law_script", "_law_town", "_law_many"]) fun _ _ _ _ _ _ us hl => match us, hl with | [_, _, _], _ => rfl,
    m__law_value := PySem.W.mg_of X G a34,
    F__law_value := F34, b__law_value := F34.binds (ps := ["_law_script", "_law_town"]) fun _ _ _ _ _ _ us hl => match us, hl with | [_, _], _ => rfl,
    m__law_board := PySem.W.mg_of X G a35,
    F__law_board := F35, b__law_board := F35.binds (ps := ["_law_script", "_law_town"]) fun _ _ _ _ _ _ us hl => match us, hl with | [_, _], _ => rfl,
    m__law_deed := PySem.W.mg_of X G a36,
    F__law_deed := F36, b__law_deed := F36.binds (ps := ["_law_script", "_law_town", "_law_board_here"]) fun _ _ _ _ _ _ us hl => match us, hl with | [_, _, _], _ => rfl,
    m__law_done := PySem.W.mg_of X G a37,
    F__law_done := F37, b__law_done := F37.binds (ps := ["_law_board_here", "_law_deed_here"]) fun _ _ _ _ _ _ us hl => match us, hl with | [_, _], _ => rfl,
    m__law_edited := PySem.W.mg_of X G a38,
    F__law_edited := F38, b__law_edited := F38.binds (ps := ["_law_value_here", "_law_deed_here", "_law_new", "_law_most"]) fun _ _ _ _ _ _ us hl => match us, hl with | [_, _, _, _], _ => rfl,
    m__law_told := PySem.W.mg_of X G a39,
    F__law_told := F39, b__law_told := F39.binds (ps := ["_law_tree", "_law_word", "_law_thing"]) fun _ _ _ _ _ _ us hl => match us, hl with | [_, _, _], _ => rfl,
    m__law_is_said := PySem.W.mg_of X G a40,
    F__law_is_said := F40, b__law_is_said := F40.binds (ps := ["_law_state", "_law_one", "_law_other"]) fun _ _ _ _ _ _ us hl => match us, hl with | [_, _, _], _ => rfl,
    m__law_turn := PySem.W.mg_of X G a41,
    F__law_turn := F41, b__law_turn := F41.binds (ps := ["_law_script", "_law_town", "_law_tree", "_law_state"]) fun _ _ _ _ _ _ us hl => match us, hl with | [_, _, _, _], _ => rfl,
    m__law_nodes := PySem.W.mg_of X G a42,
    F__law_nodes := F42, b__law_nodes := F42.binds (ps := ["_law_tree", "_law_state", "_law_many"]) fun _ _ _ _ _ _ us hl => match us, hl with | [_, _, _], _ => rfl,
    m_law := PySem.W.mg_of X G a43,
    F_law := F43, b_law := F43.binds (ps := ["_law_script"]) fun _ _ _ _ _ _ us hl => match us, hl with | [_], _ => rfl,
    c_Node := by rw [ha_Node]; exact ⟨pg_Node, hd_Node, po_Node, sa_Node⟩,
    n_Node_origin := by rw [ha_Node]; exact n_Node_origin,
    n_Node_deed := by rw [ha_Node]; exact n_Node_deed,
    n_Node_other := by rw [ha_Node]; exact n_Node_other,
    n_Node_comes := by rw [ha_Node]; exact n_Node_comes,
    mc_Node := by rw [ha_Node]; exact PySem.W.mg_of X G N_Node, mk_Node := by rw [ha_Node]; exact ⟨mk_Node, a14, i14, kc_Node⟩,
    c_Tree := by rw [ha_Tree]; exact ⟨pg_Tree, hd_Tree, po_Tree, sa_Tree⟩,
    n_Tree_here_board := by rw [ha_Tree]; exact n_Tree_here_board,
    n_Tree_nodes := by rw [ha_Tree]; exact n_Tree_nodes,
    n_Tree_here := by rw [ha_Tree]; exact n_Tree_here,
    n_Tree_last := by rw [ha_Tree]; exact n_Tree_last,
    n_Tree_marked := by rw [ha_Tree]; exact n_Tree_marked,
    mc_Tree := by rw [ha_Tree]; exact PySem.W.mg_of X G N_Tree, mk_Tree := by rw [ha_Tree]; exact ⟨mk_Tree, a15, i15, kc_Tree⟩,
    z_abs := PySem.W.mg_none_of X G z_abs,
    z_all := PySem.W.mg_none_of X G z_all,
    z_any := PySem.W.mg_none_of X G z_any,
    z_int := PySem.W.mg_none_of X G z_int,
    z_isinstance := PySem.W.mg_none_of X G z_isinstance,
    z_len := PySem.W.mg_none_of X G z_len,
    z_list := PySem.W.mg_none_of X G z_list,
    z_max := PySem.W.mg_none_of X G z_max,
    z_ord := PySem.W.mg_none_of X G z_ord,
    z_range := PySem.W.mg_none_of X G z_range,
    z_sorted := PySem.W.mg_none_of X G z_sorted,
    z_tuple := PySem.W.mg_none_of X G z_tuple,
    g_MOST_NAMES := ⟨_, PySem.W.mg_of X G g_MOST_NAMES⟩,
    g_MOST_NUMBER := ⟨_, PySem.W.mg_of X G g_MOST_NUMBER⟩,
    g_MOST_ROW := ⟨_, PySem.W.mg_of X G g_MOST_ROW⟩,
    g_MOST_TEXT := ⟨_, PySem.W.mg_of X G g_MOST_TEXT⟩,
    g_MOST_WORD := ⟨_, PySem.W.mg_of X G g_MOST_WORD⟩,
    g_SMALL := ⟨_, PySem.W.mg_of X G g_SMALL⟩,
    g_KINDS := ⟨_, PySem.W.mg_of X G g_KINDS, fun _ _ => .kod (kod_mk d_KINDS h_KINDS s_KINDS_ e_KINDS)⟩,
    g_SIZES := ⟨_, PySem.W.mg_of X G g_SIZES, fun _ _ => .kod (kod_mk d_SIZES h_SIZES s_SIZES_ e_SIZES)⟩,
    x_BadBoard := by rw [ha_BadBoard]; exact xe_BadBoard, mx_BadBoard := by rw [ha_BadBoard]; exact PySem.W.mg_of X G x_BadBoard, kx_BadBoard := by rw [ha_BadBoard]; exact xk_BadBoard, rx_BadBoard := fun Y eY => by rw [ha_BadBoard]; subst eY; exact raises_own xb_BadBoard xt_BadBoard,
    x_BadDeed := by rw [ha_BadDeed]; exact xe_BadDeed, mx_BadDeed := by rw [ha_BadDeed]; exact PySem.W.mg_of X G x_BadDeed, kx_BadDeed := by rw [ha_BadDeed]; exact xk_BadDeed, rx_BadDeed := fun Y eY => by rw [ha_BadDeed]; subst eY; exact raises_own xb_BadDeed xt_BadDeed,
    x_BadNumber := by rw [ha_BadNumber]; exact xe_BadNumber, mx_BadNumber := by rw [ha_BadNumber]; exact PySem.W.mg_of X G x_BadNumber, kx_BadNumber := by rw [ha_BadNumber]; exact xk_BadNumber, rx_BadNumber := fun Y eY => by rw [ha_BadNumber]; subst eY; exact raises_own xb_BadNumber xt_BadNumber,
    x_Stuck := by rw [ha_Stuck]; exact xe_Stuck, mx_Stuck := by rw [ha_Stuck]; exact PySem.W.mg_of X G x_Stuck, kx_Stuck := by rw [ha_Stuck]; exact xk_Stuck, rx_Stuck := fun Y eY => by rw [ha_Stuck]; subst eY; exact raises_own xb_Stuck xt_Stuck,
    en_UndoError := by rw [ha_UndoError]; exact PySem.W.mg_of X G x_UndoError,
    e_UndoError := tab6 look6 (by intro b h; rw [ha_UndoError, ha_BadDeed]; cases h; exact exm_own xb_UndoError xi_UndoError xt_UndoError sb_BadDeed_UndoError) (by intro b h; rw [ha_UndoError, ha_BadBoard]; cases h; exact exm_own xb_UndoError xi_UndoError xt_UndoError sb_BadBoard_UndoError) (by intro b h; rw [ha_UndoError, ha_BadNumber]; cases h; exact exm_own xb_UndoError xi_UndoError xt_UndoError sb_BadNumber_UndoError) (by intro b h; rw [ha_UndoError, ha_Stuck]; cases h; exact exm_own xb_UndoError xi_UndoError xt_UndoError sb_Stuck_UndoError) (by intro b h; rw [ha_UndoError, ha_Open]; cases h; exact exm_own xb_UndoError xi_UndoError xt_UndoError sb_Open_UndoError) (by intro b h; rw [ha_UndoError, ha_Clash]; cases h; exact exm_own xb_UndoError xi_UndoError xt_UndoError sb_Clash_UndoError),
    im_BadBoard := by rw [ha_BadBoard]; exact PySem.W.mg_of X G x_BadBoard,
    i1_BadBoard := by rw [ha_BadBoard]; exact ty6 (ty_own xi_BadBoard xt_BadBoard fun c => rfl) (ty_own xi_BadBoard xt_BadBoard fun c => rfl) (ty_own xi_BadBoard xt_BadBoard fun c => rfl) (ty_own xi_BadBoard xt_BadBoard fun c => rfl) (ty_own xi_BadBoard xt_BadBoard fun c => rfl) (ty_own xi_BadBoard xt_BadBoard fun c => rfl),
    i2_BadBoard := tab6 (t := fun c => is_BadBoard (.inr c)) look6 (by intro b h; rw [ha_BadBoard, ha_BadDeed]; cases h; exact ⟨kit1_own xi_BadBoard xt_BadBoard sb_BadDeed_BadBoard (fun z => by rw [ne_BadDeed_BadBoard] at z; cases z), xcBadDeed⟩) (by intro b h; rw [ha_BadBoard]; cases h; exact ⟨kit1_own xi_BadBoard xt_BadBoard sb_BadBoard_BadBoard (fun z => rfl), xcBadBoard⟩) (by intro b h; rw [ha_BadBoard, ha_BadNumber]; cases h; exact ⟨kit1_own xi_BadBoard xt_BadBoard sb_BadNumber_BadBoard (fun z => by rw [ne_BadNumber_BadBoard] at z; cases z), xcBadNumber⟩) (by intro b h; rw [ha_BadBoard, ha_Stuck]; cases h; exact ⟨kit1_own xi_BadBoard xt_BadBoard sb_Stuck_BadBoard (fun z => by rw [ne_Stuck_BadBoard] at z; cases z), xcStuck⟩) (by intro b h; rw [ha_BadBoard, ha_Open]; cases h; exact ⟨kit1_own xi_BadBoard xt_BadBoard sb_Open_BadBoard (fun z => by rw [ne_Open_BadBoard] at z; cases z), xcOpen⟩) (by intro b h; rw [ha_BadBoard, ha_Clash]; cases h; exact ⟨kit1_own xi_BadBoard xt_BadBoard sb_Clash_BadBoard (fun z => by rw [ne_Clash_BadBoard] at z; cases z), xcClash⟩),
    im_BadDeed := by rw [ha_BadDeed]; exact PySem.W.mg_of X G x_BadDeed,
    i1_BadDeed := by rw [ha_BadDeed]; exact ty6 (ty_own xi_BadDeed xt_BadDeed fun c => rfl) (ty_own xi_BadDeed xt_BadDeed fun c => rfl) (ty_own xi_BadDeed xt_BadDeed fun c => rfl) (ty_own xi_BadDeed xt_BadDeed fun c => rfl) (ty_own xi_BadDeed xt_BadDeed fun c => rfl) (ty_own xi_BadDeed xt_BadDeed fun c => rfl),
    i2_BadDeed := tab6 (t := fun c => is_BadDeed (.inr c)) look6 (by intro b h; rw [ha_BadDeed]; cases h; exact ⟨kit1_own xi_BadDeed xt_BadDeed sb_BadDeed_BadDeed (fun z => rfl), xcBadDeed⟩) (by intro b h; rw [ha_BadDeed, ha_BadBoard]; cases h; exact ⟨kit1_own xi_BadDeed xt_BadDeed sb_BadBoard_BadDeed (fun z => by rw [ne_BadBoard_BadDeed] at z; cases z), xcBadBoard⟩) (by intro b h; rw [ha_BadDeed, ha_BadNumber]; cases h; exact ⟨kit1_own xi_BadDeed xt_BadDeed sb_BadNumber_BadDeed (fun z => by rw [ne_BadNumber_BadDeed] at z; cases z), xcBadNumber⟩) (by intro b h; rw [ha_BadDeed, ha_Stuck]; cases h; exact ⟨kit1_own xi_BadDeed xt_BadDeed sb_Stuck_BadDeed (fun z => by rw [ne_Stuck_BadDeed] at z; cases z), xcStuck⟩) (by intro b h; rw [ha_BadDeed, ha_Open]; cases h; exact ⟨kit1_own xi_BadDeed xt_BadDeed sb_Open_BadDeed (fun z => by rw [ne_Open_BadDeed] at z; cases z), xcOpen⟩) (by intro b h; rw [ha_BadDeed, ha_Clash]; cases h; exact ⟨kit1_own xi_BadDeed xt_BadDeed sb_Clash_BadDeed (fun z => by rw [ne_Clash_BadDeed] at z; cases z), xcClash⟩),
    im_BadNumber := by rw [ha_BadNumber]; exact PySem.W.mg_of X G x_BadNumber,
    i1_BadNumber := by rw [ha_BadNumber]; exact ty6 (ty_own xi_BadNumber xt_BadNumber fun c => rfl) (ty_own xi_BadNumber xt_BadNumber fun c => rfl) (ty_own xi_BadNumber xt_BadNumber fun c => rfl) (ty_own xi_BadNumber xt_BadNumber fun c => rfl) (ty_own xi_BadNumber xt_BadNumber fun c => rfl) (ty_own xi_BadNumber xt_BadNumber fun c => rfl),
    i2_BadNumber := tab6 (t := fun c => is_BadNumber (.inr c)) look6 (by intro b h; rw [ha_BadNumber, ha_BadDeed]; cases h; exact ⟨kit1_own xi_BadNumber xt_BadNumber sb_BadDeed_BadNumber (fun z => by rw [ne_BadDeed_BadNumber] at z; cases z), xcBadDeed⟩) (by intro b h; rw [ha_BadNumber, ha_BadBoard]; cases h; exact ⟨kit1_own xi_BadNumber xt_BadNumber sb_BadBoard_BadNumber (fun z => by rw [ne_BadBoard_BadNumber] at z; cases z), xcBadBoard⟩) (by intro b h; rw [ha_BadNumber]; cases h; exact ⟨kit1_own xi_BadNumber xt_BadNumber sb_BadNumber_BadNumber (fun z => rfl), xcBadNumber⟩) (by intro b h; rw [ha_BadNumber, ha_Stuck]; cases h; exact ⟨kit1_own xi_BadNumber xt_BadNumber sb_Stuck_BadNumber (fun z => by rw [ne_Stuck_BadNumber] at z; cases z), xcStuck⟩) (by intro b h; rw [ha_BadNumber, ha_Open]; cases h; exact ⟨kit1_own xi_BadNumber xt_BadNumber sb_Open_BadNumber (fun z => by rw [ne_Open_BadNumber] at z; cases z), xcOpen⟩) (by intro b h; rw [ha_BadNumber, ha_Clash]; cases h; exact ⟨kit1_own xi_BadNumber xt_BadNumber sb_Clash_BadNumber (fun z => by rw [ne_Clash_BadNumber] at z; cases z), xcClash⟩),
    im_Clash := by rw [ha_Clash]; exact PySem.W.mg_of X G x_Clash,
    i1_Clash := by rw [ha_Clash]; exact ty6 (ty_own xi_Clash xt_Clash fun c => rfl) (ty_own xi_Clash xt_Clash fun c => rfl) (ty_own xi_Clash xt_Clash fun c => rfl) (ty_own xi_Clash xt_Clash fun c => rfl) (ty_own xi_Clash xt_Clash fun c => rfl) (ty_own xi_Clash xt_Clash fun c => rfl),
    i2_Clash := tab6 (t := fun c => is_Clash (.inr c)) look6 (by intro b h; rw [ha_Clash, ha_BadDeed]; cases h; exact ⟨kit1_own xi_Clash xt_Clash sb_BadDeed_Clash (fun z => by rw [ne_BadDeed_Clash] at z; cases z), xcBadDeed⟩) (by intro b h; rw [ha_Clash, ha_BadBoard]; cases h; exact ⟨kit1_own xi_Clash xt_Clash sb_BadBoard_Clash (fun z => by rw [ne_BadBoard_Clash] at z; cases z), xcBadBoard⟩) (by intro b h; rw [ha_Clash, ha_BadNumber]; cases h; exact ⟨kit1_own xi_Clash xt_Clash sb_BadNumber_Clash (fun z => by rw [ne_BadNumber_Clash] at z; cases z), xcBadNumber⟩) (by intro b h; rw [ha_Clash, ha_Stuck]; cases h; exact ⟨kit1_own xi_Clash xt_Clash sb_Stuck_Clash (fun z => by rw [ne_Stuck_Clash] at z; cases z), xcStuck⟩) (by intro b h; rw [ha_Clash, ha_Open]; cases h; exact ⟨kit1_own xi_Clash xt_Clash sb_Open_Clash (fun z => by rw [ne_Open_Clash] at z; cases z), xcOpen⟩) (by intro b h; rw [ha_Clash]; cases h; exact ⟨kit1_own xi_Clash xt_Clash sb_Clash_Clash (fun z => rfl), xcClash⟩),
    im_Open := by rw [ha_Open]; exact PySem.W.mg_of X G x_Open,
    i1_Open := by rw [ha_Open]; exact ty6 (ty_own xi_Open xt_Open fun c => rfl) (ty_own xi_Open xt_Open fun c => rfl) (ty_own xi_Open xt_Open fun c => rfl) (ty_own xi_Open xt_Open fun c => rfl) (ty_own xi_Open xt_Open fun c => rfl) (ty_own xi_Open xt_Open fun c => rfl),
    i2_Open := tab6 (t := fun c => is_Open (.inr c)) look6 (by intro b h; rw [ha_Open, ha_BadDeed]; cases h; exact ⟨kit1_own xi_Open xt_Open sb_BadDeed_Open (fun z => by rw [ne_BadDeed_Open] at z; cases z), xcBadDeed⟩) (by intro b h; rw [ha_Open, ha_BadBoard]; cases h; exact ⟨kit1_own xi_Open xt_Open sb_BadBoard_Open (fun z => by rw [ne_BadBoard_Open] at z; cases z), xcBadBoard⟩) (by intro b h; rw [ha_Open, ha_BadNumber]; cases h; exact ⟨kit1_own xi_Open xt_Open sb_BadNumber_Open (fun z => by rw [ne_BadNumber_Open] at z; cases z), xcBadNumber⟩) (by intro b h; rw [ha_Open, ha_Stuck]; cases h; exact ⟨kit1_own xi_Open xt_Open sb_Stuck_Open (fun z => by rw [ne_Stuck_Open] at z; cases z), xcStuck⟩) (by intro b h; rw [ha_Open]; cases h; exact ⟨kit1_own xi_Open xt_Open sb_Open_Open (fun z => rfl), xcOpen⟩) (by intro b h; rw [ha_Open, ha_Clash]; cases h; exact ⟨kit1_own xi_Open xt_Open sb_Clash_Open (fun z => by rw [ne_Clash_Open] at z; cases z), xcClash⟩),
    im_Stuck := by rw [ha_Stuck]; exact PySem.W.mg_of X G x_Stuck,
    i1_Stuck := by rw [ha_Stuck]; exact ty6 (ty_own xi_Stuck xt_Stuck fun c => rfl) (ty_own xi_Stuck xt_Stuck fun c => rfl) (ty_own xi_Stuck xt_Stuck fun c => rfl) (ty_own xi_Stuck xt_Stuck fun c => rfl) (ty_own xi_Stuck xt_Stuck fun c => rfl) (ty_own xi_Stuck xt_Stuck fun c => rfl),
    i2_Stuck := tab6 (t := fun c => is_Stuck (.inr c)) look6 (by intro b h; rw [ha_Stuck, ha_BadDeed]; cases h; exact ⟨kit1_own xi_Stuck xt_Stuck sb_BadDeed_Stuck (fun z => by rw [ne_BadDeed_Stuck] at z; cases z), xcBadDeed⟩) (by intro b h; rw [ha_Stuck, ha_BadBoard]; cases h; exact ⟨kit1_own xi_Stuck xt_Stuck sb_BadBoard_Stuck (fun z => by rw [ne_BadBoard_Stuck] at z; cases z), xcBadBoard⟩) (by intro b h; rw [ha_Stuck, ha_BadNumber]; cases h; exact ⟨kit1_own xi_Stuck xt_Stuck sb_BadNumber_Stuck (fun z => by rw [ne_BadNumber_Stuck] at z; cases z), xcBadNumber⟩) (by intro b h; rw [ha_Stuck]; cases h; exact ⟨kit1_own xi_Stuck xt_Stuck sb_Stuck_Stuck (fun z => rfl), xcStuck⟩) (by intro b h; rw [ha_Stuck, ha_Open]; cases h; exact ⟨kit1_own xi_Stuck xt_Stuck sb_Open_Stuck (fun z => by rw [ne_Open_Stuck] at z; cases z), xcOpen⟩) (by intro b h; rw [ha_Stuck, ha_Clash]; cases h; exact ⟨kit1_own xi_Stuck xt_Stuck sb_Clash_Stuck (fun z => by rw [ne_Clash_Stuck] at z; cases z), xcClash⟩),
    im_ValueError := PySem.W.mg_none_of X G iz_ValueError,
    i1_ValueError := ty6 (kit_ty (by decide +kernel)) (kit_ty (by decide +kernel)) (kit_ty (by decide +kernel)) (kit_ty (by decide +kernel)) (kit_ty (by decide +kernel)) (kit_ty (by decide +kernel)),
    i2_ValueError := tab6 (t := fun c => is_ValueError (.inr c)) look6 (by intro b h; rw [ha_BadDeed]; cases h; exact ⟨kit_vty sv_BadDeed, xcBadDeed⟩) (by intro b h; rw [ha_BadBoard]; cases h; exact ⟨kit_vty sv_BadBoard, xcBadBoard⟩) (by intro b h; rw [ha_BadNumber]; cases h; exact ⟨kit_vty sv_BadNumber, xcBadNumber⟩) (by intro b h; rw [ha_Stuck]; cases h; exact ⟨kit_vty sv_Stuck, xcStuck⟩) (by intro b h; rw [ha_Open]; cases h; exact ⟨kit_vty sv_Open, xcOpen⟩) (by intro b h; rw [ha_Clash]; cases h; exact ⟨kit_vty sv_Clash, xcClash⟩) }
  exact ⟨x.fd_law, fun s v => .of_eq rfl, fun base _ _ => (ok_law (P := P) (base := base) T).imp law_imp⟩
theorem walk {l : PySem.W.OpenLaw} {q : Program} {loose : List Str} {XP : (Str → Option Value) → Heap → Prop} {YP : World → Heap → Prop} {d : DefRec} {K : Params → PySem.W.Frag} (hn : l.most = some 63) (hdf : d.params.defaults = [])
    (hY : ∀ (w : World) (h : Heap), YP w h → (K w.params).In h)
    (F : ∀ (w : World) (mg : Str → Option Value) (fa : Addr) (h : Heap), (K w.params).In h → h.Ns mainGlobals mg → mg d.name = some (.ref fa) →
      ∃ fd : FuncData, (∀ (s : Shared) (u : Value), BindsTo s fd ⟨[u], []⟩ [("_law_script", u)]) ∧ ∀ base : Heap, (K w.params).In base → base.Ns mainGlobals mg → FnOk l.prog w (K w.params) mg base (L2.CX l.prog w) 9 fa fd ["_law_script"] (spLaw (K w.params))) :
    PySem.W.WalkO q loose XP YP l.row.toRowW d [] (fun f vs => PySem.call f vs) :=
  L2.walk_of (n := 63) (k := 9) (x := "_law_script") (CX := fun w => L2.CX l.prog w) (sp := fun w => spLaw (K w.params)) hn (by decide) hdf ⟨rfl, by decide, by decide⟩ hY F (fun _ _ p ns hl _ hS => ⟨p, ns, rfl, hS, hl, fun _ => rfl⟩) fun _ _ _ _ _ z => by
    obtain ⟨_, _, _, _, _, _, _, _, _, _, _, _, z⟩ := z
    exact z.elim
end Dee
open PySem PySem.W PyProof.Rows in
set_option maxRecDepth 100000 in
set_option maxHeartbeats 0 in
theorem PySem.Challenge.cw_undohouse_k40_whole_trees_holds : PySem.Challenge.rw_undohouse_k40_whole_trees.Holds := by
  w_on; o_law; k_head; (case hw => w_witness2)
  k_fill
  refine Dee.walk (l := PySem.Challenge.rw_undohouse_k40_whole_trees) rfl rfl (fun w h Y => PySem.W.kIn_of Y) ?F
  case F =>
    intro w mg fa h KX G hmg
    refine' Dee.all_mk KX G hmg ?a0 ?l0 ?c0 ?k0 ?a1 ?l1 ?c1 ?k1 ?a2 ?l2 ?c2 ?k2 ?a3 ?l3 ?c3 ?k3 ?a4 ?l4 ?c4 ?k4 ?a5 ?l5 ?c5 ?k5 ?a6 ?l6 ?c6 ?k6 ?a7 ?l7 ?c7 ?k7 ?a8 ?l8 ?c8 ?k8 ?a9 ?l9 ?c9 ?k9 ?a10 ?l10 ?c10 ?k10 ?a11 ?l11 ?c11 ?k11 ?a12 ?l12 ?c12 ?k12 ?a13 ?l13 ?c13 ?k13 ?a14 ?i14 ?l14 ?c14 ?k14 ?a15 ?i15 ?l15 ?c15 ?k15 ?a16 ?i16 ?l16 ?c16 ?k16 ?a17 ?i17 ?l17 ?c17 ?k17 ?a18 ?i18 ?l18 ?c18 ?k18 ?a19 ?i19 ?l19 ?c19 ?k19 ?a20 ?i20 ?l20 ?c20 ?k20 ?a21 ?i21 ?l21 ?c21 ?k21 ?a22 ?i22 ?l22 ?c22 ?k22 ?a23 ?i23 ?l23 ?c23 ?k23 ?a24 ?i24 ?l24 ?c24 ?k24 ?a25 ?i25 ?l25 ?c25 ?k25 ?a26 ?i26 ?l26 ?c26 ?k26 ?a27 ?i27 ?l27 ?c27 ?k27 ?a28 ?l28 ?c28 ?k28 ?a29 ?l29 ?c29 ?k29 ?a30 ?l30 ?c30 ?k30 ?a31 ?l31 ?c31 ?k31 ?a32 ?l32 ?c32 ?k32 ?a33 ?l33 ?c33 ?k33 ?a34 ?l34 ?c34 ?k34 ?a35 ?l35 ?c35 ?k35 ?a36 ?l36 ?c36 ?k36 ?a37 ?l37 ?c37 ?k37 ?a38 ?l38 ?c38 ?k38 ?a39 ?l39 ?c39 ?k39 ?a40 ?l40 ?c40 ?k40 ?a41 ?l41 ?c41 ?k41 ?a42 ?l42 ?c42 ?k42 ?a43 ?l43 ?c43 ?k43 ?N_Node ?pg_Node ?hd_Node ?po_Node ?sa_Node ?n_Node_origin ?n_Node_deed ?n_Node_other ?n_Node_comes ?mk_Node ?kc_Node ?N_Tree ?pg_Tree ?hd_Tree ?po_Tree ?sa_Tree ?n_Tree_here_board ?n_Tree_nodes ?n_Tree_here ?n_Tree_last ?n_Tree_marked ?mk_Tree ?kc_Tree ?z_abs ?z_all ?z_any ?z_int ?z_isinstance ?z_len ?z_list ?z_max ?z_ord ?z_range ?z_sorted ?z_tuple ?iz_ValueError ?g_MOST_NAMES ?g_MOST_NUMBER ?g_MOST_ROW ?g_MOST_TEXT ?g_MOST_WORD ?g_SMALL ?g_KINDS ?d_KINDS ?h_KINDS ?s_KINDS_ ?e_KINDS ?g_SIZES ?d_SIZES ?h_SIZES ?s_SIZES_ ?e_SIZES ?x_BadBoard ?xe_BadBoard ?xk_BadBoard ?xb_BadBoard ?xt_BadBoard ?xi_BadBoard ?xg_BadBoard ?xh_BadBoard ?xc_BadBoard ?xo_BadBoard ?x_BadDeed ?xe_BadDeed ?xk_BadDeed ?xb_BadDeed ?xt_BadDeed ?xi_BadDeed ?xg_BadDeed ?xh_BadDeed ?xc_BadDeed ?xo_BadDeed ?x_BadNumber ?xe_BadNumber ?xk_BadNumber ?xb_BadNumber ?xt_BadNumber ?xi_BadNumber ?xg_BadNumber ?xh_BadNumber ?xc_BadNumber ?xo_BadNumber ?x_Clash ?xb_Clash ?xt_Clash ?xi_Clash ?xg_Clash ?xh_Clash ?xc_Clash ?xo_Clash ?x_Open ?xb_Open ?xt_Open ?xi_Open ?xg_Open ?xh_Open ?xc_Open ?xo_Open ?x_Stuck ?xe_Stuck ?xk_Stuck ?xb_Stuck ?xt_Stuck ?xi_Stuck ?xg_Stuck ?xh_Stuck ?xc_Stuck ?xo_Stuck ?x_UndoError ?xb_UndoError ?xt_UndoError ?xi_UndoError ?og ?ot ?sb_BadDeed_BadBoard ?sb_BadBoard_BadBoard ?sb_BadNumber_BadBoard ?sb_Stuck_BadBoard ?sb_Open_BadBoard ?sb_Clash_BadBoard ?ne_BadDeed_BadBoard ?ne_BadNumber_BadBoard ?ne_Stuck_BadBoard ?ne_Open_BadBoard ?ne_Clash_BadBoard ?sb_BadDeed_BadDeed ?sb_BadBoard_BadDeed ?sb_BadNumber_BadDeed ?sb_Stuck_BadDeed ?sb_Open_BadDeed ?sb_Clash_BadDeed ?ne_BadBoard_BadDeed ?ne_BadNumber_BadDeed ?ne_Stuck_BadDeed ?ne_Open_BadDeed ?ne_Clash_BadDeed ?sb_BadDeed_BadNumber ?sb_BadBoard_BadNumber ?sb_BadNumber_BadNumber ?sb_Stuck_BadNumber ?sb_Open_BadNumber ?sb_Clash_BadNumber ?ne_BadDeed_BadNumber ?ne_BadBoard_BadNumber ?ne_Stuck_BadNumber ?ne_Open_BadNumber ?ne_Clash_BadNumber ?sb_BadDeed_Clash ?sb_BadBoard_Clash ?sb_BadNumber_Clash ?sb_Stuck_Clash ?sb_Open_Clash ?sb_Clash_Clash ?ne_BadDeed_Clash ?ne_BadBoard_Clash ?ne_BadNumber_Clash ?ne_Stuck_Clash ?ne_Open_Clash ?sb_BadDeed_Open ?sb_BadBoard_Open ?sb_BadNumber_Open ?sb_Stuck_Open ?sb_Open_Open ?sb_Clash_Open ?ne_BadDeed_Open ?ne_BadBoard_Open ?ne_BadNumber_Open ?ne_Stuck_Open ?ne_Clash_Open ?sb_BadDeed_Stuck ?sb_BadBoard_Stuck ?sb_BadNumber_Stuck ?sb_Stuck_Stuck ?sb_Open_Stuck ?sb_Clash_Stuck ?ne_BadDeed_Stuck ?ne_BadBoard_Stuck ?ne_BadNumber_Stuck ?ne_Open_Stuck ?ne_Clash_Stuck ?sb_BadDeed_UndoError ?sb_BadBoard_UndoError ?sb_BadNumber_UndoError ?sb_Stuck_UndoError ?sb_Open_UndoError ?sb_Clash_UndoError ?sv_BadDeed ?sv_BadBoard ?sv_BadNumber ?sv_Stuck ?sv_Open ?sv_Clash
    (case N_Node => k_is)
    (case N_Tree => k_is)
    (case a0 => k_is)
    (case l0 => k_is)
    (case c0 => k_is)
    (case k0 => k_is)
    (case a1 => k_is)
    (case l1 => k_is)
    (case c1 => k_is)
    (case k1 => k_is)
    (case a2 => k_is)
    (case l2 => k_is)
    (case c2 => k_is)
    (case k2 => k_is)
    (case a3 => k_is)
    (case l3 => k_is)
    (case c3 => k_is)
    (case k3 => k_is)
    (case a4 => k_is)
    (case l4 => k_is)
    (case c4 => k_is)
    (case k4 => k_is)
    (case a5 => k_is)
    (case l5 => k_is)
    (case c5 => k_is)
    (case k5 => k_is)
    (case a6 => k_is)
    (case l6 => k_is)
    (case c6 => k_is)
    (case k6 => k_is)
    (case a7 => k_is)
    (case l7 => k_is)
    (case c7 => k_is)
    (case k7 => k_is)
    (case a8 => k_is)
    (case l8 => k_is)
    (case c8 => k_is)
    (case k8 => k_is)
    (case a9 => k_is)
    (case l9 => k_is)
    (case c9 => k_is)
    (case k9 => k_is)
    (case a10 => k_is)
    (case l10 => k_is)
    (case c10 => k_is)
    (case k10 => k_is)
    (case a11 => k_is)
    (case l11 => k_is)
    (case c11 => k_is)
    (case k11 => k_is)
    (case a12 => k_is)
    (case l12 => k_is)
    (case c12 => k_is)
    (case k12 => k_is)
    (case a13 => k_is)
    (case l13 => k_is)
    (case c13 => k_is)
    (case k13 => k_is)
    (case a14 => k_is)
    (case i14 => k_is)
    (case l14 => k_is)
    (case c14 => k_is)
    (case k14 => k_is)
    (case a15 => k_is)
    (case i15 => k_is)
    (case l15 => k_is)
    (case c15 => k_is)
    (case k15 => k_is)
    (case a16 => k_is)
    (case i16 => k_is)
    (case l16 => k_is)
    (case c16 => k_is)
    (case k16 => k_is)
    (case a17 => k_is)
    (case i17 => k_is)
    (case l17 => k_is)
    (case c17 => k_is)
    (case k17 => k_is)
    (case a18 => k_is)
    (case i18 => k_is)
    (case l18 => k_is)
    (case c18 => k_is)
    (case k18 => k_is)
    (case a19 => k_is)
    (case i19 => k_is)
    (case l19 => k_is)
    (case c19 => k_is)
    (case k19 => k_is)
    (case a20 => k_is)
    (case i20 => k_is)
    (case l20 => k_is)
    (case c20 => k_is)
    (case k20 => k_is)
    (case a21 => k_is)
    (case i21 => k_is)
    (case l21 => k_is)
    (case c21 => k_is)
    (case k21 => k_is)
    (case a22 => k_is)
    (case i22 => k_is)
    (case l22 => k_is)
    (case c22 => k_is)
    (case k22 => k_is)
    (case a23 => k_is)
    (case i23 => k_is)
    (case l23 => k_is)
    (case c23 => k_is)
    (case k23 => k_is)
    (case a24 => k_is)
    (case i24 => k_is)
    (case l24 => k_is)
    (case c24 => k_is)
    (case k24 => k_is)
    (case a25 => k_is)
    (case i25 => k_is)
    (case l25 => k_is)
    (case c25 => k_is)
    (case k25 => k_is)
    (case a26 => k_is)
    (case i26 => k_is)
    (case l26 => k_is)
    (case c26 => k_is)
    (case k26 => k_is)
    (case a27 => k_is)
    (case i27 => k_is)
    (case l27 => k_is)
    (case c27 => k_is)
    (case k27 => k_is)
    (case a28 => k_is)
    (case l28 => k_is)
    (case c28 => k_is)
    (case k28 => k_is)
    (case a29 => k_is)
    (case l29 => k_is)
    (case c29 => k_is)
    (case k29 => k_is)
    (case a30 => k_is)
    (case l30 => k_is)
    (case c30 => k_is)
    (case k30 => k_is)
    (case a31 => k_is)
    (case l31 => k_is)
    (case c31 => k_is)
    (case k31 => k_is)
    (case a32 => k_is)
    (case l32 => k_is)
    (case c32 => k_is)
    (case k32 => k_is)
    (case a33 => k_is)
    (case l33 => k_is)
    (case c33 => k_is)
    (case k33 => k_is)
    (case a34 => k_is)
    (case l34 => k_is)
    (case c34 => k_is)
    (case k34 => k_is)
    (case a35 => k_is)
    (case l35 => k_is)
    (case c35 => k_is)
    (case k35 => k_is)
    (case a36 => k_is)
    (case l36 => k_is)
    (case c36 => k_is)
    (case k36 => k_is)
    (case a37 => k_is)
    (case l37 => k_is)
    (case c37 => k_is)
    (case k37 => k_is)
    (case a38 => k_is)
    (case l38 => k_is)
    (case c38 => k_is)
    (case k38 => k_is)
    (case a39 => k_is)
    (case l39 => k_is)
    (case c39 => k_is)
    (case k39 => k_is)
    (case a40 => k_is)
    (case l40 => k_is)
    (case c40 => k_is)
    (case k40 => k_is)
    (case a41 => k_is)
    (case l41 => k_is)
    (case c41 => k_is)
    (case k41 => k_is)
    (case a42 => k_is)
    (case l42 => k_is)
    (case c42 => k_is)
    (case k42 => k_is)
    (case a43 => k_is)
    (case l43 => k_is)
    (case c43 => k_is)
    (case k43 => k_is)
    (case pg_Node => k_is)
    (case hd_Node => k_is)
    (case po_Node => k_is)
    (case sa_Node => k_is)
    (case n_Node_origin => k_is)
    (case n_Node_deed => k_is)
    (case n_Node_other => k_is)
    (case n_Node_comes => k_is)
    (case mk_Node => k_is)
    (case kc_Node => k_is)
    (case pg_Tree => k_is)
    (case hd_Tree => k_is)
    (case po_Tree => k_is)
    (case sa_Tree => k_is)
    (case n_Tree_here_board => k_is)
    (case n_Tree_nodes => k_is)
    (case n_Tree_here => k_is)
    (case n_Tree_last => k_is)
    (case n_Tree_marked => k_is)
    (case mk_Tree => k_is)
    (case kc_Tree => k_is)
    (case z_abs => k_is)
    (case z_all => k_is)
    (case z_any => k_is)
    (case z_int => k_is)
    (case z_isinstance => k_is)
    (case z_len => k_is)
    (case z_list => k_is)
    (case z_max => k_is)
    (case z_ord => k_is)
    (case z_range => k_is)
    (case z_sorted => k_is)
    (case z_tuple => k_is)
    (case iz_ValueError => k_is)
    (case g_MOST_NAMES => k_is)
    (case g_MOST_NUMBER => k_is)
    (case g_MOST_ROW => k_is)
    (case g_MOST_TEXT => k_is)
    (case g_MOST_WORD => k_is)
    (case g_SMALL => k_is)
    (case g_KINDS => k_is)
    (case d_KINDS => k_is)
    (case h_KINDS => first | k_is | (repeat constructor) | trivial)
    (case s_KINDS_ => first | rfl | decide | k_is)
    (case e_KINDS => exact ⟨⟨_, rfl⟩, ⟨_, rfl, ⟨_, rfl⟩⟩, ⟨⟨_, rfl⟩, ⟨_, rfl, ⟨_, rfl⟩⟩, ⟨⟨_, rfl⟩, ⟨_, rfl, ⟨_, rfl⟩⟩, ⟨⟨_, rfl⟩, ⟨_, rfl, ⟨_, rfl⟩⟩, ⟨⟨_, rfl⟩, ⟨_, rfl, ⟨_, rfl⟩⟩, ⟨⟨_, rfl⟩, ⟨_, rfl, ⟨_, rfl⟩⟩, ⟨⟨_, rfl⟩, ⟨_, rfl, ⟨_, rfl⟩⟩, True.intro⟩⟩⟩⟩⟩⟩⟩)
    (case g_SIZES => k_is)
    (case d_SIZES => k_is)
    (case h_SIZES => first | k_is | (repeat constructor) | trivial)
    (case s_SIZES_ => first | rfl | decide | k_is)
    (case e_SIZES => exact ⟨⟨_, rfl⟩, ⟨_, rfl, ⟨_, rfl⟩⟩, ⟨⟨_, rfl⟩, ⟨_, rfl, ⟨_, rfl⟩⟩, ⟨⟨_, rfl⟩, ⟨_, rfl, ⟨_, rfl⟩⟩, ⟨⟨_, rfl⟩, ⟨_, rfl, ⟨_, rfl⟩⟩, ⟨⟨_, rfl⟩, ⟨_, rfl, ⟨_, rfl⟩⟩, ⟨⟨_, rfl⟩, ⟨_, rfl, ⟨_, rfl⟩⟩, ⟨⟨_, rfl⟩, ⟨_, rfl, ⟨_, rfl⟩⟩, ⟨⟨_, rfl⟩, ⟨_, rfl, ⟨_, rfl⟩⟩, ⟨⟨_, rfl⟩, ⟨_, rfl, ⟨_, rfl⟩⟩, ⟨⟨_, rfl⟩, ⟨_, rfl, ⟨_, rfl⟩⟩, True.intro⟩⟩⟩⟩⟩⟩⟩⟩⟩⟩)
    (case x_BadBoard => k_is)
    (case xe_BadBoard => first | k_exc | k_is)
    (case xk_BadBoard => k_is)
    (case xb_BadBoard => k_is)
    (case xt_BadBoard => k_is)
    (case xi_BadBoard => k_is)
    (case xg_BadBoard => k_is)
    (case xh_BadBoard => k_is)
    (case xc_BadBoard => k_is)
    (case xo_BadBoard => k_is)
    (case x_BadDeed => k_is)
    (case xe_BadDeed => first | k_exc | k_is)
    (case xk_BadDeed => k_is)
    (case xb_BadDeed => k_is)
    (case xt_BadDeed => k_is)
    (case xi_BadDeed => k_is)
    (case xg_BadDeed => k_is)
    (case xh_BadDeed => k_is)
    (case xc_BadDeed => k_is)
    (case xo_BadDeed => k_is)
    (case x_BadNumber => k_is)
    (case xe_BadNumber => first | k_exc | k_is)
    (case xk_BadNumber => k_is)
    (case xb_BadNumber => k_is)
    (case xt_BadNumber => k_is)
    (case xi_BadNumber => k_is)
    (case xg_BadNumber => k_is)
    (case xh_BadNumber => k_is)
    (case xc_BadNumber => k_is)
    (case xo_BadNumber => k_is)
    (case x_Clash => k_is)
    (case xb_Clash => k_is)
    (case xt_Clash => k_is)
    (case xi_Clash => k_is)
    (case xg_Clash => k_is)
    (case xh_Clash => k_is)
    (case xc_Clash => k_is)
    (case xo_Clash => k_is)
    (case x_Open => k_is)
    (case xb_Open => k_is)
    (case xt_Open => k_is)
    (case xi_Open => k_is)
    (case xg_Open => k_is)
    (case xh_Open => k_is)
    (case xc_Open => k_is)
    (case xo_Open => k_is)
    (case x_Stuck => k_is)
    (case xe_Stuck => first | k_exc | k_is)
    (case xk_Stuck => k_is)
    (case xb_Stuck => k_is)
    (case xt_Stuck => k_is)
    (case xi_Stuck => k_is)
    (case xg_Stuck => k_is)
    (case xh_Stuck => k_is)
    (case xc_Stuck => k_is)
    (case xo_Stuck => k_is)
    (case x_UndoError => k_is)
    (case xb_UndoError => k_is)
    (case xt_UndoError => k_is)
    (case xi_UndoError => k_is)
    (case og => k_is)
    (case ot => k_is)
    (case sb_BadDeed_BadBoard => k_is)
    (case sb_BadBoard_BadBoard => k_is)
    (case sb_BadNumber_BadBoard => k_is)
    (case sb_Stuck_BadBoard => k_is)
    (case sb_Open_BadBoard => k_is)
    (case sb_Clash_BadBoard => k_is)
    (case ne_BadDeed_BadBoard => first | rfl | decide +kernel)
    (case ne_BadNumber_BadBoard => first | rfl | decide +kernel)
    (case ne_Stuck_BadBoard => first | rfl | decide +kernel)
    (case ne_Open_BadBoard => first | rfl | decide +kernel)
    (case ne_Clash_BadBoard => first | rfl | decide +kernel)
    (case sb_BadDeed_BadDeed => k_is)
    (case sb_BadBoard_BadDeed => k_is)
    (case sb_BadNumber_BadDeed => k_is)
    (case sb_Stuck_BadDeed => k_is)
    (case sb_Open_BadDeed => k_is)
    (case sb_Clash_BadDeed => k_is)
    (case ne_BadBoard_BadDeed => first | rfl | decide +kernel)
    (case ne_BadNumber_BadDeed => first | rfl | decide +kernel)
    (case ne_Stuck_BadDeed => first | rfl | decide +kernel)
    (case ne_Open_BadDeed => first | rfl | decide +kernel)
    (case ne_Clash_BadDeed => first | rfl | decide +kernel)
    (case sb_BadDeed_BadNumber => k_is)
    (case sb_BadBoard_BadNumber => k_is)
    (case sb_BadNumber_BadNumber => k_is)
    (case sb_Stuck_BadNumber => k_is)
    (case sb_Open_BadNumber => k_is)
    (case sb_Clash_BadNumber => k_is)
    (case ne_BadDeed_BadNumber => first | rfl | decide +kernel)
    (case ne_BadBoard_BadNumber => first | rfl | decide +kernel)
    (case ne_Stuck_BadNumber => first | rfl | decide +kernel)
    (case ne_Open_BadNumber => first | rfl | decide +kernel)
    (case ne_Clash_BadNumber => first | rfl | decide +kernel)
    (case sb_BadDeed_Clash => k_is)
    (case sb_BadBoard_Clash => k_is)
    (case sb_BadNumber_Clash => k_is)
    (case sb_Stuck_Clash => k_is)
    (case sb_Open_Clash => k_is)
    (case sb_Clash_Clash => k_is)
    (case ne_BadDeed_Clash => first | rfl | decide +kernel)
    (case ne_BadBoard_Clash => first | rfl | decide +kernel)
    (case ne_BadNumber_Clash => first | rfl | decide +kernel)
    (case ne_Stuck_Clash => first | rfl | decide +kernel)
    (case ne_Open_Clash => first | rfl | decide +kernel)
    (case sb_BadDeed_Open => k_is)
    (case sb_BadBoard_Open => k_is)
    (case sb_BadNumber_Open => k_is)
    (case sb_Stuck_Open => k_is)
    (case sb_Open_Open => k_is)
    (case sb_Clash_Open => k_is)
    (case ne_BadDeed_Open => first | rfl | decide +kernel)
    (case ne_BadBoard_Open => first | rfl | decide +kernel)
    (case ne_BadNumber_Open => first | rfl | decide +kernel)
    (case ne_Stuck_Open => first | rfl | decide +kernel)
    (case ne_Clash_Open => first | rfl | decide +kernel)
    (case sb_BadDeed_Stuck => k_is)
    (case sb_BadBoard_Stuck => k_is)
    (case sb_BadNumber_Stuck => k_is)
    (case sb_Stuck_Stuck => k_is)
    (case sb_Open_Stuck => k_is)
    (case sb_Clash_Stuck => k_is)
    (case ne_BadDeed_Stuck => first | rfl | decide +kernel)
    (case ne_BadBoard_Stuck => first | rfl | decide +kernel)
    (case ne_BadNumber_Stuck => first | rfl | decide +kernel)
    (case ne_Open_Stuck => first | rfl | decide +kernel)
    (case ne_Clash_Stuck => first | rfl | decide +kernel)
    (case sb_BadDeed_UndoError => k_is)
    (case sb_BadBoard_UndoError => k_is)
    (case sb_BadNumber_UndoError => k_is)
    (case sb_Stuck_UndoError => k_is)
    (case sb_Open_UndoError => k_is)
    (case sb_Clash_UndoError => k_is)
    (case sv_BadDeed => k_is)
    (case sv_BadBoard => k_is)
    (case sv_BadNumber => k_is)
    (case sv_Stuck => k_is)
    (case sv_Open => k_is)
    (case sv_Clash => k_is)
