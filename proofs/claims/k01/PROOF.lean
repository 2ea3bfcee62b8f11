import PyProof.Rows.All
import Wide.All
import OpenK.AllK
import Wide.FinOn
import PyProof.EqAt
import PyProof.EqKinds
import PyProof.TupleCall
import HandS.ForMost
import HandS.Walk
import HandS.Exc
import HandS.ExcOwn
import HandS.TryOnly
import HandS.IsInst
import HandS.TupAny
import HandS.Wide
import HandS.Style
import HandS.Zip
import HandS.Conv
import HandS.Evl
import HandS.Text
import KE.DataEq
import HandS.TupMul
import KE.GoesEnum
import HandS.WordsExc
import HandS.EndBits
import HandS.Head0
import HandS.Head1
import HandS.Head2
import HandS.HeadEnd
import HandS.HeadHook1
import HandS.HeadHook2
import HandS.HeadHook3
import HandS.HeadHook4
import PySem.Challenge.RW_justwhere_k01_whole_expressions_and_test
open Evl (Ex Ex.refl Ex.trans Ex.new ex_l ex_t)
/-! == LL1 == -/
set_option Elab.async false
set_option linter.all false
set_option maxRecDepth 100000
set_option maxHeartbeats 2000000
/-! LL, part 1: plain data, how the heap bears them, the little language and what it means -/
namespace LL
open PySem PySem.Spec PyProof.Rows L2

/-- data: what a Python value says, without addresses (ob: an object of the store; scr: the script) -/
inductive D where
  | non
  | bl (b : Bool)
  | int (i : Int)
  | str (s : Str)
  | tup (ds : List D)
  | lst (ds : List D)
  | dct (ks : List Str) (ds : List D)
  | ob (n : Nat)
  | scr (ns : List Int)
  deriving Inhabited

/-- the written part, and the world's own numbers -/
abbrev KP := PySem.W.Frag × PySem.Params
def kp (X : Cx) : KP := (X.K, X.w.params)
/-- a written dict with text keys ks and values us -/
structure KDw (K : KP) (a : Addr) (ks : List Str) (us : List Value) : Prop where
  at_ : ∃ es n, K.1.lookup a = some ⟨.type "dict", none, .dict es n, #[]⟩ ∧ PySem.W.KeysLit K.2 es.toList ∧ es.toList.map (·.val) = us ∧ es.toList.length = ks.length ∧
    ∀ (i : Nat) (e : DictEntry), es.toList[i]? = some e → ∃ x t, e.key = .str x t ∧ ks[i]? = some x
  low : (a == sysModules) = false
/-! ### the store: objects that change -/
inductive Cell where
  /-- the law's source of draws: [[..], n] -/
  | deal (cs : List Int) (b : Int)
  deriving Inhabited
abbrev W := List Cell
abbrev Ads := List (Addr × Addr)

/-- v says d, by the objects of F (which never change) -/
inductive Rp (K : KP) (F : Hp) (ad : Ads) : V → D → Prop where
  | non : Rp K F ad .non .non
  | bl (b : Bool) : Rp K F ad (.bl b) (.bl b)
  | int (i : Int) : Rp K F ad (.int i) (.int i)
  | str (s : Str) : Rp K F ad (.str s) (.str s)
  | tup {a : Addr} {vs : List V} {ds : List D} (h : SqT K.1 F a vs) (hl : vs.length = ds.length) (r : ∀ (i : Nat) (v : V) (d : D), vs[i]? = some v → ds[i]? = some d → Rp K F ad v d) : Rp K F ad (.ref a) (.tup ds)
  | lst {a : Addr} {vs : List V} {ds : List D} (h : F a = some (.lst vs)) (hl : vs.length = ds.length) (r : ∀ (i : Nat) (v : V) (d : D), vs[i]? = some v → ds[i]? = some d → Rp K F ad v d) : Rp K F ad (.ref a) (.lst ds)
  | dct {a : Addr} {kvs : List (Key × V)} {ks : List Str} {ds : List D} (h : F a = some (.dK kvs)) (hk : kvs.map (·.1) = ks.map Sum.inr) (hl : kvs.length = ds.length)
      (r : ∀ (i : Nat) (p : Key × V) (d : D), kvs[i]? = some p → ds[i]? = some d → Rp K F ad p.2 d) : Rp K F ad (.ref a) (.dct ks ds)
  | kd {a : Addr} {ks : List Str} {us : List Value} {vs : List V} {ds : List D} (h : KDw K a ks us) (hv : Vals vs us) (hl : vs.length = ds.length)
      (r : ∀ (i : Nat) (v : V) (d : D), vs[i]? = some v → ds[i]? = some d → Rp K F ad v d) : Rp K F ad (.ref a) (.dct ks ds)
  | ob {n : Nat} {p : Addr × Addr} (h : ad[n]? = some p) : Rp K F ad (.ref p.1) (.ob n)
  | scr {a : Addr} {ns : List Int} (h : SqL K.1 F a (ns.map V.int)) : Rp K F ad (.ref a) (.scr ns)

/-- item by item -/
def RpAll (K : KP) (F : Hp) (ad : Ads) (vs : List V) (ds : List D) : Prop := vs.length = ds.length ∧ ∀ (i : Nat) (v : V) (d : D), vs[i]? = some v → ds[i]? = some d → Rp K F ad v d
/-- ad' goes on from ad -/
def Le (ad ad' : Ads) : Prop := ∀ (n : Nat) (p : Addr × Addr), ad[n]? = some p → ad'[n]? = some p
theorem Le.refl (ad : Ads) : Le ad ad := fun _ _ h => h
theorem Le.trans {a b c : Ads} (h : Le a b) (k : Le b c) : Le a c := fun n p q => k n p (h n p q)

section
variable {K : KP} {F F' : Hp} {ad ad' : Ads} {v : V} {d : D} {vs ws : List V} {ds es : List D}
theorem Rp.mono (e : Ex F F') (l : Le ad ad') (h : Rp K F ad v d) : Rp K F' ad' v d := by
  induction h with
  | non => exact .non
  | bl b => exact .bl b
  | int i => exact .int i
  | str s => exact .str s
  | tup h hl r ih => exact .tup (ex_t e h) hl ih
  | lst h hl r ih => exact .lst (e _ _ h) hl ih
  | dct h hk hl r ih => exact .dct (e _ _ h) hk hl ih
  | kd h hv hl r ih => exact .kd h hv hl ih
  | ob h => exact .ob (l _ _ h)
  | scr h => exact .scr (ex_l e h)
theorem RpAll.mono (e : Ex F F') (l : Le ad ad') (h : RpAll K F ad vs ds) : RpAll K F' ad' vs ds := ⟨h.1, fun i v d a b => (h.2 i v d a b).mono e l⟩
theorem RpAll.nil : RpAll K F ad [] [] := ⟨rfl, fun i v d h => by simp at h⟩
theorem RpAll.cons (h : Rp K F ad v d) (t : RpAll K F ad vs ds) : RpAll K F ad (v :: vs) (d :: ds) := by
  refine ⟨by simp [t.1], fun i w e hi he => ?_⟩
  cases i with
  | zero => simp at hi he; subst hi he; exact h
  | succ i => exact t.2 i w e (by simpa using hi) (by simpa using he)
theorem RpAll.uncons {ds : List D} (h : RpAll K F ad (v :: vs) ds) : ∃ d es, ds = d :: es ∧ Rp K F ad v d ∧ RpAll K F ad vs es := by
  cases ds with
  | nil => exact absurd h.1 (by simp)
  | cons d es => exact ⟨d, es, rfl, h.2 0 v d rfl rfl, by simpa using h.1, fun i w e hi he => h.2 (i + 1) w e (by simpa using hi) (by simpa using he)⟩
theorem RpAll.of_nil {ds : List D} (h : RpAll K F ad [] ds) : ds = [] := List.eq_nil_of_length_eq_zero h.1.symm
theorem RpAll.nil_of {vs : List V} (h : RpAll K F ad vs []) : vs = [] := List.eq_nil_of_length_eq_zero h.1
theorem RpAll.get (h : RpAll K F ad vs ds) {i : Nat} (hd : ds[i]? = some d) : ∃ v, vs[i]? = some v ∧ Rp K F ad v d := by
  have hi : i < ds.length := (List.getElem?_eq_some_iff.mp hd).1
  have hi' : i < vs.length := by rw [h.1]; exact hi
  exact ⟨vs[i], List.getElem?_eq_getElem hi', h.2 i _ _ (List.getElem?_eq_getElem hi') hd⟩
theorem RpAll.get' (h : RpAll K F ad vs ds) {i : Nat} (hv : vs[i]? = some v) : ∃ d, ds[i]? = some d ∧ Rp K F ad v d := by
  have hi : i < vs.length := (List.getElem?_eq_some_iff.mp hv).1
  have hi' : i < ds.length := by rw [← h.1]; exact hi
  exact ⟨ds[i], List.getElem?_eq_getElem hi', h.2 i _ _ hv (List.getElem?_eq_getElem hi')⟩
theorem RpAll.append (h : RpAll K F ad vs ds) (k : RpAll K F ad ws es) : RpAll K F ad (vs ++ ws) (ds ++ es) := by
  refine ⟨by simp [h.1, k.1], fun i v d a b => ?_⟩
  by_cases hi : i < vs.length
  · rw [List.getElem?_append_left hi] at a
    rw [List.getElem?_append_left (by rw [← h.1]; exact hi)] at b
    exact h.2 i v d a b
  · rw [List.getElem?_append_right (by omega)] at a
    rw [List.getElem?_append_right (by rw [← h.1]; omega)] at b
    rw [← h.1] at b
    exact k.2 _ v d a b
theorem RpAll.drop (n : Nat) (h : RpAll K F ad vs ds) : RpAll K F ad (vs.drop n) (ds.drop n) :=
  ⟨by simp [h.1], fun i v d a b => h.2 (n + i) v d (by simpa [List.getElem?_drop] using a) (by simpa [List.getElem?_drop] using b)⟩
theorem RpAll.take (n : Nat) (h : RpAll K F ad vs ds) : RpAll K F ad (vs.take n) (ds.take n) :=
  ⟨by simp [h.1], fun i v d a b => by
    rw [List.getElem?_take] at a b
    split at a
    · rename_i q
      rw [if_pos q] at b
      exact h.2 i v d a b
    · cases a⟩
theorem RpAll.set (h : RpAll K F ad vs ds) (j : Nat) (r : Rp K F ad v d) : RpAll K F ad (vs.set j v) (ds.set j d) := by
  refine ⟨by simp [h.1], fun i w e a b => ?_⟩
  rw [List.getElem?_set] at a b
  split at a
  · rename_i q
    rw [if_pos q] at b
    split at a
    · rename_i q2
      rw [if_pos (by rw [← h.1]; exact q2)] at b
      cases a; cases b; exact r
    · cases a
  · rename_i q
    rw [if_neg q] at b
    exact h.2 i w e a b
theorem RpAll.reverse (h : RpAll K F ad vs ds) : RpAll K F ad vs.reverse ds.reverse := by
  refine ⟨by simp [h.1], fun i v d a b => ?_⟩
  have hi : i < vs.length := by
    have := (List.getElem?_eq_some_iff.mp a).1
    simpa using this
  have hi' : i < ds.length := by rw [← h.1]; exact hi
  rw [List.getElem?_reverse hi] at a
  rw [List.getElem?_reverse hi'] at b
  rw [← h.1] at b
  exact h.2 _ v d a b
theorem RpAll.rep (h : RpAll K F ad vs ds) : ∀ k : Nat, RpAll K F ad (List.replicate k vs).flatten (List.replicate k ds).flatten
  | 0 => .nil
  | k + 1 => by
    rw [List.replicate_succ, List.flatten_cons, List.replicate_succ, List.flatten_cons]
    exact h.append (RpAll.rep h k)
theorem RpAll.dropLast (h : RpAll K F ad vs ds) : RpAll K F ad vs.dropLast ds.dropLast := by
  rw [List.dropLast_eq_take, List.dropLast_eq_take, ← h.1]
  exact h.take _
theorem RpAll.eraseIdx (h : RpAll K F ad vs ds) (k : Nat) : RpAll K F ad (vs.eraseIdx k) (ds.eraseIdx k) := by
  rw [List.eraseIdx_eq_take_drop_succ, List.eraseIdx_eq_take_drop_succ]
  exact (h.take _).append (h.drop _)
theorem RpAll.ints (ns : List Int) : RpAll K F ad (ns.map V.int) (ns.map D.int) :=
  ⟨by simp, fun i v d a b => by
    rw [List.getElem?_map] at a b
    cases e : ns[i]? with
    | none => rw [e] at a; cases a
    | some n => rw [e] at a b; cases a; cases b; exact .int n⟩
theorem RpAll.strs (ns : List Str) : RpAll K F ad (ns.map V.str) (ns.map D.str) :=
  ⟨by simp, fun i v d a b => by
    rw [List.getElem?_map] at a b
    cases e : ns[i]? with
    | none => rw [e] at a; cases a
    | some n => rw [e] at a b; cases a; cases b; exact .str n⟩
theorem RpAll.tup {a : Addr} (h : SqT K.1 F a vs) (r : RpAll K F ad vs ds) : Rp K F ad (.ref a) (.tup ds) := .tup h r.1 r.2
theorem RpAll.lst {a : Addr} (h : F a = some (.lst vs)) (r : RpAll K F ad vs ds) : Rp K F ad (.ref a) (.lst ds) := .lst h r.1 r.2
theorem Rp.tup_inv {ds : List D} (h : Rp K F ad v (.tup ds)) : ∃ a vs, v = .ref a ∧ SqT K.1 F a vs ∧ RpAll K F ad vs ds := by
  cases h with
  | tup h hl r => exact ⟨_, _, rfl, h, hl, r⟩
theorem Rp.lst_inv {ds : List D} (h : Rp K F ad v (.lst ds)) : ∃ a vs, v = .ref a ∧ F a = some (.lst vs) ∧ RpAll K F ad vs ds := by
  cases h with
  | lst h hl r => exact ⟨_, _, rfl, h, hl, r⟩
theorem Rp.int_inv {i : Int} (h : Rp K F ad v (.int i)) : v = .int i := by cases h; rfl
theorem Rp.bl_inv {i : Bool} (h : Rp K F ad v (.bl i)) : v = .bl i := by cases h; rfl
theorem Rp.str_inv {i : Str} (h : Rp K F ad v (.str i)) : v = .str i := by cases h; rfl
theorem Rp.non_inv (h : Rp K F ad v .non) : v = .non := by cases h; rfl
end

/-! ### the state: what never changes (F), the store, the frame of others (Rf) -/
def CellOk (H : Hp) (p : Addr × Addr) : Cell → Prop
  | .deal cs b => H p.1 = some (.lst [.ref p.2, .int b]) ∧ H p.2 = some (.lst (cs.map V.int)) ∧ p.1 ≠ p.2
/-- the objects of the store stand; F and Rf know nothing of them; they lie apart -/
structure WOk (F Rf : Hp) (ad : Ads) (w : W) (H : Hp) : Prop where
  len : ad.length = w.length
  cell : ∀ (n : Nat) (p : Addr × Addr) (c : Cell), ad[n]? = some p → w[n]? = some c → CellOk H p c
  f1 : ∀ (n : Nat) (p : Addr × Addr), ad[n]? = some p → F p.1 = none ∧ F p.2 = none ∧ Rf p.1 = none ∧ Rf p.2 = none
  apart : ∀ (n m : Nat) (p q : Addr × Addr), ad[n]? = some p → ad[m]? = some q → n ≠ m → p.1 ≠ q.1 ∧ p.1 ≠ q.2 ∧ p.2 ≠ q.1 ∧ p.2 ≠ q.2
structure SR (F Rf : Hp) (ad : Ads) (w : W) (H : Hp) : Prop where
  fx : Ex F H
  rx : Ex Rf H
  dj : ∀ a o, Rf a = some o → F a = none
  wk : WOk F Rf ad w H
theorem CellOk.there {H : Hp} {p : Addr × Addr} {c : Cell} (h : CellOk H p c) : (∃ o, H p.1 = some o) ∧ ∃ o, H p.2 = some o := by
  cases c with
  | deal cs b => exact ⟨⟨_, h.1⟩, ⟨_, h.2.1⟩⟩
theorem CellOk.at {H H' : Hp} {p : Addr × Addr} {c : Cell} (h : CellOk H p c) (h1 : H' p.1 = H p.1) (h2 : H' p.2 = H p.2) : CellOk H' p c := by
  cases c with
  | deal cs b => exact ⟨h1.trans h.1, h2.trans h.2.1, h.2.2⟩
section
variable {F Rf : Hp} {ad : Ads} {w : W} {H : Hp}
theorem WOk.there (k : WOk F Rf ad w H) {n : Nat} {p : Addr × Addr} (h : ad[n]? = some p) : (∃ o, H p.1 = some o) ∧ ∃ o, H p.2 = some o := by
  have hn : n < w.length := by rw [← k.len]; exact (List.getElem?_eq_some_iff.mp h).1
  exact (k.cell n p w[n] h (List.getElem?_eq_getElem hn)).there
/-- something new is laid and known from now on -/
theorem SR.laid (s : SR F Rf ad w H) {p : Addr} {o : HO} (hp : H p = none) : SR (upd F p o) Rf ad w (upd H p o) := by
  have fp : F p = none := by
    cases e : F p with
    | none => rfl
    | some u => have := s.fx _ _ e; rw [hp] at this; cases this
  have rp : Rf p = none := by
    cases e : Rf p with
    | none => rfl
    | some u => have := s.rx _ _ e; rw [hp] at this; cases this
  have nw : ∀ (n : Nat) (q : Addr × Addr), ad[n]? = some q → q.1 ≠ p ∧ q.2 ≠ p := fun n q h => by
    obtain ⟨⟨o1, h1⟩, ⟨o2, h2⟩⟩ := s.wk.there h
    exact ⟨ne_of_none h1 hp, ne_of_none h2 hp⟩
  refine ⟨fun a u e => ?_, fun a u e => ?_, fun a u e => ?_, ⟨s.wk.len, fun n q c h k => ?_, fun n q h => ?_, s.wk.apart⟩⟩
  · unfold upd at e ⊢
    split
    · rename_i q; rw [if_pos q] at e; exact e
    · rename_i q; rw [if_neg q] at e; exact s.fx _ _ e
  · rw [upd_ne (ne_of_none (s.rx _ _ e) hp)]; exact s.rx _ _ e
  · rw [upd_ne (ne_of_none (s.rx _ _ e) hp)]; exact s.dj _ _ e
  · obtain ⟨n1, n2⟩ := nw n q h
    exact (s.wk.cell n q c h k).at (upd_ne n1) (upd_ne n2)
  · obtain ⟨n1, n2⟩ := nw n q h
    obtain ⟨a, b, c, d⟩ := s.wk.f1 n q h
    exact ⟨by rw [upd_ne n1]; exact a, by rw [upd_ne n2]; exact b, c, d⟩
theorem SR.fnone (s : SR F Rf ad w H) {p : Addr} (hp : H p = none) : F p = none := by
  cases e : F p with
  | none => rfl
  | some u => have := s.fx _ _ e; rw [hp] at this; cases this
theorem SR.rnone (s : SR F Rf ad w H) {p : Addr} (hp : H p = none) : Rf p = none := by
  cases e : Rf p with
  | none => rfl
  | some u => have := s.rx _ _ e; rw [hp] at this; cases this
/-- .. but not yet known -/
theorem SR.lay (s : SR F Rf ad w H) {p : Addr} {o : HO} (hp : H p = none) : SR F Rf ad w (upd H p o) := by
  have nw : ∀ (n : Nat) (q : Addr × Addr), ad[n]? = some q → q.1 ≠ p ∧ q.2 ≠ p := fun n q h => by
    obtain ⟨⟨o1, h1⟩, ⟨o2, h2⟩⟩ := s.wk.there h
    exact ⟨ne_of_none h1 hp, ne_of_none h2 hp⟩
  refine ⟨fun a u e => ?_, fun a u e => ?_, s.dj, ⟨s.wk.len, fun n q c h k => ?_, s.wk.f1, s.wk.apart⟩⟩
  · rw [upd_ne (ne_of_none (s.fx _ _ e) hp)]; exact s.fx _ _ e
  · rw [upd_ne (ne_of_none (s.rx _ _ e) hp)]; exact s.rx _ _ e
  · obtain ⟨n1, n2⟩ := nw n q h
    exact (s.wk.cell n q c h k).at (upd_ne n1) (upd_ne n2)
end
end LL
/-! == LL2 == -/
set_option Elab.async false
set_option linter.all false
set_option maxRecDepth 100000
set_option maxHeartbeats 2000000
/-! LL, part 2: the little language and what it means -/
namespace LL
open PySem PySem.Spec PyProof.Rows L2

/-- an exception: the number of its class, what it keeps -/
structure Er where
  c : Nat
  d : D
inductive R (α : Type) where
  | ok (a : α)
  | er (e : Er) (w : W)
  | bad
def R.bind {α β : Type} (x : R α) (f : α → R β) : R β := match x with
  | .ok a => f a
  | .er e w => .er e w
  | .bad => .bad
@[simp] theorem R.bind_ok {α β : Type} (a : α) (f : α → R β) : (R.ok a).bind f = f a := rfl
@[simp] theorem R.bind_er {α β : Type} (e : Er) (w : W) (f : α → R β) : (R.er e w : R α).bind f = .er e w := rfl
@[simp] theorem R.bind_bad {α β : Type} (f : α → R β) : (R.bad : R α).bind f = .bad := rfl
/-- a value, or nothing that is told of -/
def R.of {α : Type} (w : W) (x : Option α) : R (α × W) := match x with
  | some a => .ok (a, w)
  | none => .bad
@[simp] theorem R.of_some {α : Type} (w : W) (a : α) : R.of w (some a) = .ok (a, w) := rfl
@[simp] theorem R.of_none {α : Type} (w : W) : (R.of w none : R (α × W)) = .bad := rfl
/-- where no exception is told of -/
def R.noer {α : Type} (x : R α) : R α := match x with
  | .ok a => .ok a
  | _ => .bad
@[simp] theorem R.noer_ok {α : Type} (a : α) : (R.ok a).noer = .ok a := rfl
@[simp] theorem R.noer_er {α : Type} (e : Er) (w : W) : (R.er e w : R α).noer = .bad := rfl
@[simp] theorem R.noer_bad {α : Type} : (R.bad : R α).noer = .bad := rfl

inductive Op2 where | add | sub | mul | fdiv | mod | pow deriving DecidableEq
inductive Cm where | eq | ne | lt | le | gt | ge | is_ | isnt | in_ | nin deriving DecidableEq
inductive Sm where | split | join deriving DecidableEq
inductive Ty where | int | bool | str | list | tuple deriving DecidableEq
inductive Bi where | len | abs | int | str | sum | all | any | min | max | tuple | list | isi (ts : List Ty) deriving DecidableEq
/-- targets -/
inductive Tg where
  | one (i : Nat)
  | many (is : List Nat)
mutual
inductive LE where
  | v (i : Nat)
  | c (d : D)
  | g (x : Str) (d : D)
  | tup (es : LEs)
  | lst (es : LEs)
  | op (o : Op2) (a b : LE)
  | cm (o : Cm) (a b : LE)
  | chain (o p : Cm) (a b c : LE)
  | not_ (a : LE)
  | and_ (a b : LE)
  | or_ (a b : LE)
  | ite (c a b : LE)
  | neg (a : LE)
  | ix (a i : LE)
  | sl (a lo hi : LE)
  | rev (a : LE)
  | call (f : Nat) (es : LEs)
  | bi (b : Bi) (es : LEs)
  | smeth (m : Sm) (a b : LE)
  | dsp (L : List (Str × Str)) (k v : Str)
  | comp (tg : Tg) (it : LI) (cond elt : LE) (own : List Nat)
  | nop
inductive LEs where
  | nil
  | cons (e : LE) (es : LEs)
inductive LI where
  | itm (e : LE)
  | rng1 (a : LE)
  | rng2 (a b : LE)
  | zip (a b : LE)
  | enum (a : LE)
end

/-! ### values -/
def D.flat : D → Bool
  | .non | .bl _ | .int _ | .str _ => true
  | _ => false
def b2i (b : Bool) : Int := if b then 1 else 0
mutual
/-- == -/
def D.eqv : D → D → Bool
  | .non, .non => true
  | .bl a, .bl b => a == b
  | .bl a, .int j => b2i a == j
  | .int i, .bl b => i == b2i b
  | .int i, .int j => i == j
  | .str x, .str y => x == y
  | .tup xs, .tup ys => D.eqvs xs ys
  | .lst xs, .lst ys => D.eqvs xs ys
  | _, _ => false
def D.eqvs : List D → List D → Bool
  | [], [] => true
  | x :: xs, y :: ys => D.eqv x y && D.eqvs xs ys
  | _, _ => false
end
mutual
def D.plain : D → Bool
  | .non | .bl _ | .int _ | .str _ => true
  | .tup xs | .lst xs => D.plains xs
  | _ => false
def D.plains : List D → Bool
  | [] => true
  | x :: xs => D.plain x && D.plains xs
end
mutual
def D.depth : D → Nat
  | .tup xs | .lst xs => D.depths xs + 1
  | _ => 0
def D.depths : List D → Nat
  | [] => 0
  | x :: xs => max (D.depth x) (D.depths xs)
end
/-- == is told of -/
def D.eqOk (d e : D) : Bool := (d.plain && e.plain && decide (min d.depth e.depth ≤ 60)) || (match d, e with
  | .lst xs, .lst ys => xs.length != ys.length
  | _, _ => false)
def big : Nat := 16777216
/-- a, b of any kind: the sum, the product, .. -/
def opD : Op2 → D → D → Option D
  | .add, .int i, .int j => some (.int (i + j))
  | .add, .str x, .str y => if x.length + y.length ≤ big then some (.str (x ++ y)) else none
  | .add, .tup xs, .tup ys => if xs.length + ys.length ≤ big then some (.tup (xs ++ ys)) else none
  | .add, .lst xs, .lst ys => if xs.length + ys.length ≤ big then some (.lst (xs ++ ys)) else none
  | .sub, .int i, .int j => some (.int (i - j))
  | .mul, .int i, .int j => if (decide (-(2 ^ 64) < i) && decide (i < 2 ^ 64)) || (decide (-(2 ^ 64) < j) && decide (j < 2 ^ 64)) || decide (i.natAbs.log2 + j.natAbs.log2 < 1000000) then some (.int (i * j)) else none
  | .mul, .lst xs, .int k => if decide (-(2 ^ 63) ≤ k) && decide (k < 2 ^ 63) && decide (xs.length * k.toNat ≤ big) then some (.lst (List.replicate k.toNat xs).flatten) else none
  | .mul, .tup xs, .int k => if decide (1 ≤ k) && decide (k ≤ 100000) && decide (xs.length * k.toNat ≤ big) then some (.tup (List.replicate k.toNat xs).flatten) else none
  | .fdiv, .int i, .int j => if (decide (j ≠ 0) && decide (j.natAbs < 1073741824)) || (decide (0 < j) && decide (j.natAbs.log2 < 9000)) then some (.int (i.fdiv j)) else none
  | .mod, .int i, .int j => if j ≠ 0 then some (.int (i.fmod j)) else none
  | .pow, .int i, .int j => if decide (0 ≤ j) && decide (j ≤ 1000000) && decide (i.natAbs < 2 ^ 64) then some (.int (i ^ j.toNat)) else none
  | _, _, _ => none
def lookD (k : Str) : List Str → List D → Option D
  | x :: xs, d :: ds => if x = k then some d else lookD k xs ds
  | _, _ => none
def eqD (x y : D) : Option Bool := if D.eqOk x y then some (D.eqv x y) else none
def ordD (p : Int → Int → Bool) : D → D → Option Bool
  | .int i, .int j => some (p i j)
  | _, _ => none
def isD (x : D) : D → Option Bool
  | .non => some (match x with | .non => true | _ => false)
  | .bl b => some (match x with | .bl c => c == b | _ => false)
  | _ => none
def inL (x : D) (ys : List D) : Option Bool := if x.plain && D.plains ys && decide (min (D.depths ys) x.depth ≤ 60) then some (ys.any fun y => D.eqv y x) else none
def inD (x : D) : D → Option Bool
  | .tup ys => inL x ys
  | .lst ys => inL x ys
  | .str y => match x with
    | .str x => if x.cps.size = 1 then some (decide (x.cps.getD 0 0 ∈ y.cps.toList)) else none
    | _ => none
  | .dct ks _ => match x with
    | .str x => some (decide (x ∈ ks))
    | _ => none
  | _ => none
def cmD : Cm → D → D → Option Bool
  | .eq, x, y => eqD x y
  | .ne, x, y => (eqD x y).map (!·)
  | .lt, x, y => ordD (fun i j => decide (i < j)) x y
  | .le, x, y => ordD (fun i j => decide (i ≤ j)) x y
  | .gt, x, y => ordD (fun i j => decide (j < i)) x y
  | .ge, x, y => ordD (fun i j => decide (j ≤ i)) x y
  | .is_, x, y => isD x y
  | .isnt, x, y => (isD x y).map (!·)
  | .in_, x, y => inD x y
  | .nin, x, y => (inD x y).map (!·)
def ixD : D → D → Option D
  | .tup ds, .int i => atI ds i
  | .lst ds, .int i => atI ds i
  | .str s, .int i => if s.length ≤ big then (atI s.cps.toList i).map fun c => .str ⟨#[c]⟩ else none
  | .dct ks ds, .str x => lookD x ks ds
  | _, _ => none
def cutD {α : Type} (xs : List α) (lo hi : Option Int) : List α := (xs.drop (HT.sIx xs.length 0 lo)).take (HT.sIx xs.length xs.length hi - HT.sIx xs.length 0 lo)
def slD : D → Option Int → Option Int → Option D
  | .tup ds, lo, hi => some (.tup (cutD ds lo hi))
  | .lst ds, lo, hi => some (.lst (cutD ds lo hi))
  | .str s, lo, hi => if s.length ≤ big then some (.str (cutS s lo hi)) else none
  | .scr ns, lo, hi => some (.lst (cutD (ns.map .int) lo hi))
  | _, _, _ => none
def D.toInts : List D → Option (List Int)
  | [] => some []
  | .int i :: r => (D.toInts r).map (i :: ·)
  | _ => none
def D.toBls : List D → Option (List Bool)
  | [] => some []
  | .bl i :: r => (D.toBls r).map (i :: ·)
  | _ => none
def D.toStrs : List D → Option (List Str)
  | [] => some []
  | .str i :: r => (D.toStrs r).map (i :: ·)
  | _ => none
def joinD (a : Str) (ds : List D) : Option D := (D.toStrs ds).bind fun ys => if (ys.map (·.length)).sum + ys.length * a.length ≤ big then some (.str (Txt.join a ys)) else none
/-- methods of texts -/
def smD : Sm → D → D → Option D
  | .split, .str a, .str b => if (b.length == 0) = false ∧ a.length + 2 ≤ big then some (.lst ((Txt.split a b).map .str)) else none
  | .join, .str a, .lst ds => joinD a ds
  | .join, .str a, .tup ds => joinD a ds
  | _, _, _ => none
def isTy : D → Ty → Option Bool
  | .non, _ => some false
  | .bl _, .bool => some true
  | .bl _, .int => some true
  | .bl _, _ => some false
  | .int _, t => some (t == .int)
  | .str _, t => some (t == .str)
  | .tup _, t => some (t == .tuple)
  | .lst _, t => some (t == .list)
  | _, _ => none
def isTys (d : D) : List Ty → Option Bool
  | [] => some false
  | t :: ts => (isTy d t).bind fun b => if b then some true else isTys d ts
def biD : Bi → List D → Option D
  | .len, [.tup ds] => some (.int ds.length)
  | .len, [.lst ds] => some (.int ds.length)
  | .len, [.str s] => if s.length ≤ big then some (.int s.length) else none
  | .abs, [.int i] => some (.int (if i < 0 then -i else i))
  | .int, [.int i] => some (.int i)
  | .int, [.bl b] => some (.int (b2i b))
  | .str, [.int i] => if i.natAbs.log2 < 1920 then some (.str (toString i)) else none
  | .sum, [.lst ds] => (D.toInts ds).map fun ns => .int ns.sum
  | .all, [.lst ds] => (D.toBls ds).map fun bs => .bl (bs.all id)
  | .any, [.lst ds] => (D.toBls ds).map fun bs => .bl (bs.any id)
  | .min, [.int i, .int j] => some (.int (if j < i then j else i))
  | .max, [.int i, .int j] => some (.int (if j > i then j else i))
  | .tuple, [.tup ds] => some (.tup ds)
  | .tuple, [.lst ds] => some (.tup ds)
  | .list, [.tup ds] => some (.lst ds)
  | .list, [.lst ds] => some (.lst ds)
  | .isi ts, [d] => (isTys d ts).map .bl
  | _, _ => none
def itemsD : D → Option (List D)
  | .tup ds => some ds
  | .lst ds => some ds
  | .str s => some (s.cps.toList.map fun c => .str ⟨#[c]⟩)
  | _ => none
def rngD (lo : Int) (n : Nat) : List D := (List.range n).map fun i => .int (lo + (i : Nat))
def okI (i : Int) : Bool := decide (-(2 ^ 62) ≤ i) && decide (i < 2 ^ 62)

/-! ### what is stored -/
abbrev Env := List (Option D)
def bindTs : List Nat → List D → Env → Option Env
  | [], [], env => some env
  | i :: is, d :: ds, env => bindTs is ds (env.set i (some d))
  | _, _, _ => none
def bindT : Tg → D → Env → Option Env
  | .one i, d, env => some (env.set i (some d))
  | .many is, .tup ds, env => bindTs is ds env
  | _, _, _ => none
def wipeE (env : Env) : List Nat → Env
  | [] => env
  | v :: vs => (wipeE env vs).set v none
def compGo (f : D → W → R (Option D × W)) : List D → W → R (List D × W)
  | [], w => .ok ([], w)
  | d :: ds, w => (f d w).bind fun (o, w1) => (compGo f ds w1).bind fun (rest, w2) => .ok ((match o with | some x => x :: rest | none => rest), w2)
abbrev Fns := Nat → List D → W → R (D × W)
def asB : D → Option Bool
  | .bl b => some b
  | _ => none
def isNop : LE → Bool
  | .nop => true
  | _ => false
/-- a slice's end: left out, or a number -/
def evoF (n : Bool) (f : W → R (D × W)) (w : W) : R (Option Int × W) := match n with
  | true => .ok (none, w)
  | false => (f w).bind fun (x, w) => match x with
    | .int i => .ok (some i, w)
    | _ => .bad
mutual
def ev (Φ : Fns) (env : Env) : LE → W → R (D × W)
  | .v i, w => R.of w (env[i]?.bind id)
  | .c d, w => .ok (d, w)
  | .g _ d, w => .ok (d, w)
  | .tup es, w => (evs Φ env es w).bind fun (ds, w) => if ds.length ≤ big then .ok (.tup ds, w) else .bad
  | .lst es, w => (evs Φ env es w).bind fun (ds, w) => if ds.length ≤ big then .ok (.lst ds, w) else .bad
  | .op o a b, w => (ev Φ env a w).bind fun (x, w) => (ev Φ env b w).bind fun (y, w) => R.of w (opD o x y)
  | .cm o a b, w => (ev Φ env a w).bind fun (x, w) => (ev Φ env b w).bind fun (y, w) => R.of w ((cmD o x y).map .bl)
  | .chain o p a b c, w => (ev Φ env a w).bind fun (x, w) => (ev Φ env b w).bind fun (y, w) => match cmD o x y with
    | some true => (ev Φ env c w).bind fun (z, w) => R.of w ((cmD p y z).map .bl)
    | some false => .ok (.bl false, w)
    | none => .bad
  | .not_ a, w => (ev Φ env a w).bind fun (x, w) => R.of w ((asB x).map fun b => .bl (!b))
  | .and_ a b, w => (ev Φ env a w).bind fun (x, w) => match asB x with
    | some true => ev Φ env b w
    | some false => .ok (.bl false, w)
    | none => .bad
  | .or_ a b, w => (ev Φ env a w).bind fun (x, w) => match asB x with
    | some true => .ok (.bl true, w)
    | some false => ev Φ env b w
    | none => .bad
  | .ite c a b, w => (ev Φ env c w).bind fun (x, w) => match asB x with
    | some true => ev Φ env a w
    | some false => ev Φ env b w
    | none => .bad
  | .neg a, w => (ev Φ env a w).bind fun (x, w) => match x with
    | .int i => .ok (.int (-i), w)
    | _ => .bad
  | .ix a i, w => (ev Φ env a w).bind fun (x, w) => (ev Φ env i w).bind fun (y, w) => R.of w (ixD x y)
  | .sl a lo hi, w => (ev Φ env a w).bind fun (x, w) => (evoF (isNop lo) (fun w => ev Φ env lo w) w).bind fun (l, w) => (evoF (isNop hi) (fun w => ev Φ env hi w) w).bind fun (h, w) => R.of w (slD x l h)
  | .rev a, w => (ev Φ env a w).bind fun (x, w) => match x with
    | .lst ds => .ok (.lst ds.reverse, w)
    | _ => .bad
  | .call f es, w => (evs Φ env es w).bind fun (ds, w) => Φ f ds w
  | .bi b es, w => (evs Φ env es w).bind fun (ds, w) => R.of w (biD b ds)
  | .dsp L k v, w => .ok (.dct (L.map (·.1) ++ [k]) ((L.map (·.2) ++ [v]).map .str), w)
  | .smeth m a b, w => (ev Φ env a w).bind fun (x, w) => match x with
    | .str s => (ev Φ env b w).bind fun (y, w) => R.of w (smD m (.str s) y)
    | _ => .bad
  | .comp tg it cond elt own, w => (evi Φ env it w).bind fun (ds, w) => (compGo (fun d w => match bindT tg d (wipeE env own) with
      | none => .bad
      | some env' => (match isNop cond with | true => R.ok (D.bl true, w) | false => ev Φ env' cond w).bind fun (x, w) => match asB x with
        | some true => (ev Φ env' elt w).bind fun (y, w) => .ok (some y, w)
        | some false => .ok (none, w)
        | none => .bad) ds w).noer.bind fun (xs, w) => if xs.length ≤ big then .ok (.lst xs, w) else .bad
  | .nop, _ => .bad
termination_by structural e => e
def evs (Φ : Fns) (env : Env) : LEs → W → R (List D × W)
  | .nil, w => .ok ([], w)
  | .cons e es, w => (ev Φ env e w).bind fun (d, w) => (evs Φ env es w).bind fun (ds, w) => .ok (d :: ds, w)
termination_by structural es => es
def evi (Φ : Fns) (env : Env) : LI → W → R (List D × W)
  | .itm e, w => (ev Φ env e w).bind fun (x, w) => R.of w (itemsD x)
  | .rng1 a, w => (ev Φ env a w).bind fun (x, w) => match x with
    | .int i => if okI i then .ok (rngD 0 i.toNat, w) else .bad
    | _ => .bad
  | .rng2 a b, w => (ev Φ env a w).bind fun (x, w) => (ev Φ env b w).bind fun (y, w) => match x, y with
    | .int i, .int j => if okI i && okI j then .ok (rngD i (j - i).toNat, w) else .bad
    | _, _ => .bad
  | .zip a b, w => (ev Φ env a w).bind fun (x, w) => (ev Φ env b w).bind fun (y, w) => match itemsD x, itemsD y with
    | some xs, some ys => .ok ((xs.zip ys).map fun p => .tup [p.1, p.2], w)
    | _, _ => .bad
  | .enum a, w => (ev Φ env a w).bind fun (x, w) => match itemsD x with
    | some xs => .ok ((rngD 0 xs.length).zip xs |>.map fun p => .tup [p.1, p.2], w)
    | none => .bad
termination_by structural it => it
end
end LL
/-! == LL3 == -/
set_option Elab.async false
set_option linter.all false
set_option maxRecDepth 100000
set_option maxHeartbeats 2000000
/-! LL, part 3: readings from the language's meaning -/
namespace LL
open PySem PySem.Spec PyProof.Rows L2

section
variable (K : KP) (cad : Nat → Addr)
/-- how an exception lies: its class, its own dict with what it keeps -/
def ErRep (F : Hp) (ad : Ads) (e : Er) (cls : Value) (dd : Option Addr) (H : Hp) : Prop :=
  cls = .ref (cad e.c) ∧ ∃ (d : Addr) (v : V), dd = some d ∧ H d = some (.xd [(("at" : Str), v)]) ∧ Rp K F ad v e.d
def Res (F : Hp) (ad : Ads) (Rf H : Hp) (fr : Bool) (v : V) (d : D) : Prop := match fr, d with
  | true, .lst ds => ∃ a vs, v = .ref a ∧ H a = some (.lst vs) ∧ RpAll K F ad vs ds ∧ F a = none ∧ Rf a = none ∧ ∀ (n : Nat) (p : Addr × Addr), ad[n]? = some p → p.1 ≠ a ∧ p.2 ≠ a
  | _, _ => Rp K F ad v d
def ErEnd (Rf : Hp) (Wx : XK) (F : Hp) (ad : Ads) (e : Er) (w : W) : Prop :=
  ∀ cls dd H F' ad', Ex F F' → Le ad ad' → SR F' Rf ad' w H → ErRep K cad F' ad' e cls dd H → Wx cls dd H
def PostE (Rf : Hp) (Wx : XK) (fr : Bool) (F : Hp) (ad : Ads) (r : R (D × W)) (Q : VK) : Prop := match r with
  | .ok (d, w) => ∀ v H F' ad', Ex F F' → Le ad ad' → SR F' Rf ad' w H → Res K F' ad' Rf H fr v d → Q v H
  | .er e w => ErEnd K cad Rf Wx F ad e w
  | .bad => False
def PostA (Rf : Hp) (Wx : XK) (F : Hp) (ad : Ads) (r : R (List D × W)) (Q : List V → Hp → Prop) : Prop := match r with
  | .ok (ds, w) => ∀ vs H F' ad', Ex F F' → Le ad ad' → SR F' Rf ad' w H → RpAll K F' ad' vs ds → Q vs H
  | .er e w => ErEnd K cad Rf Wx F ad e w
  | .bad => False
def EnvR (F : Hp) (ad : Ads) (env : Env) (σ : L2.St) : Prop := env.length = σ.length ∧ ∀ (i : Nat) (d : D), env[i]? = some (some d) → ∃ v, σ[i]? = some (some v) ∧ Rp K F ad v d
/-- the reading of an expression -/
def rdE (Wx : WX) (Φ : Fns) (fr : Bool) (e : LE) : TE := fun σ H Q => ∃ F Rf ad env w, SR F Rf ad w H ∧ EnvR K F ad env σ ∧ PostE K cad Rf (WE Wx σ) fr F ad (ev Φ env e w) Q
def rdA (Wx : WX) (Φ : Fns) (es : LEs) : TA := fun σ H Q => ∃ F Rf ad env w, SR F Rf ad w H ∧ EnvR K F ad env σ ∧ PostA K cad Rf (WE Wx σ) F ad (evs Φ env es w) Q
/-- .. at a state that is told -/
def rdAt (Wx : WX) (fr : Bool) (m : Env → W → R (D × W)) : TE := fun σ H Q => ∃ F Rf ad env w, SR F Rf ad w H ∧ EnvR K F ad env σ ∧ PostE K cad Rf (WE Wx σ) fr F ad (m env w) Q
end

section
variable {K : KP} {cad : Nat → Addr} {F F' F'' Rf H : Hp} {ad ad' : Ads} {env : Env} {σ : L2.St} {Wx : XK} {fr : Bool} {v : V} {d : D} {w : W}
theorem EnvR.mono (e : Ex F F') (l : Le ad ad') (h : EnvR K F ad env σ) : EnvR K F' ad' env σ := ⟨h.1, fun i d q => let ⟨v, a, b⟩ := h.2 i d q; ⟨v, a, b.mono e l⟩⟩
theorem ErEnd.mono {e : Er} (x : Ex F F') (l : Le ad ad') (h : ErEnd K cad Rf Wx F ad e w) : ErEnd K cad Rf Wx F' ad' e w :=
  fun cls dd H F2 ad2 a b c r => h cls dd H F2 ad2 (x.trans a) (l.trans b) c r
theorem Res.of (h : Rp K F ad v d) : Res K F ad Rf H false v d := by unfold Res; exact h
theorem Res.rp (h : Res K F ad Rf H false v d) : Rp K F ad v d := by unfold Res at h; exact h
theorem Res.flat (hd : ∀ ds, d ≠ .lst ds) (h : Rp K F ad v d) : Res K F ad Rf H fr v d := by
  unfold Res
  cases fr with
  | false => exact h
  | true =>
    cases d with
    | lst ds => exact absurd rfl (hd ds)
    | _ => exact h
/-- what is new is known from now on -/
theorem SR.know {a : Addr} {o : HO} (s : SR F Rf ad w H) (ha : H a = some o) (hr : Rf a = none) (hn : ∀ (n : Nat) (p : Addr × Addr), ad[n]? = some p → p.1 ≠ a ∧ p.2 ≠ a) : SR (upd F a o) Rf ad w H := by
  refine ⟨fun b u e => ?_, s.rx, fun b u e => ?_, ⟨s.wk.len, s.wk.cell, fun n q h => ?_, s.wk.apart⟩⟩
  · by_cases hb : b = a
    · subst hb; rw [upd_same] at e; cases e; exact ha
    · rw [upd_ne hb] at e; exact s.fx _ _ e
  · by_cases hb : b = a
    · subst hb; rw [hr] at e; cases e
    · rw [upd_ne hb]; exact s.dj _ _ e
  · obtain ⟨n1, n2⟩ := hn n q h
    obtain ⟨x, y, z, t⟩ := s.wk.f1 n q h
    exact ⟨by rw [upd_ne n1]; exact x, by rw [upd_ne n2]; exact y, z, t⟩
theorem Ex.updNew {a : Addr} {o : HO} (h : F a = none) : Ex F (upd F a o) := Ex.new h
theorem Res.freeze (s : SR F Rf ad w H) (h : Res K F ad Rf H fr v d) : ∃ F', Ex F F' ∧ SR F' Rf ad w H ∧ Rp K F' ad v d := by
  cases fr with
  | false => exact ⟨F, Ex.refl F, s, h⟩
  | true =>
    cases d with
    | lst ds =>
      obtain ⟨a, vs, rfl, ha, r, fa, ra, na⟩ := h
      exact ⟨upd F a (.lst vs), Ex.new fa, s.know ha ra na, (r.mono (Ex.new fa) (Le.refl ad)).lst upd_same⟩
    | _ => exact ⟨F, Ex.refl F, s, h⟩
theorem PostE.mono {r : R (D × W)} {Q : VK} (x : Ex F F') (l : Le ad ad') (h : PostE K cad Rf Wx fr F ad r Q) : PostE K cad Rf Wx fr F' ad' r Q := by
  cases r with
  | ok a => exact fun v H F2 ad2 a b c r => h v H F2 ad2 (x.trans a) (l.trans b) c r
  | er e w => exact ErEnd.mono x l h
  | bad => exact h
theorem PostA.mono {r : R (List D × W)} {Q : List V → Hp → Prop} (x : Ex F F') (l : Le ad ad') (h : PostA K cad Rf Wx F ad r Q) : PostA K cad Rf Wx F' ad' r Q := by
  cases r with
  | ok a => exact fun v H F2 ad2 a b c r => h v H F2 ad2 (x.trans a) (l.trans b) c r
  | er e w => exact ErEnd.mono x l h
  | bad => exact h
/-- first this, then that -/
theorem PostE.bind {r : R (D × W)} {f : D × W → R (D × W)} {Q Q' : VK} (h : PostE K cad Rf Wx fr F ad (r.bind f) Q)
    (k : ∀ d w v H F' ad', Ex F F' → Le ad ad' → SR F' Rf ad' w H → Rp K F' ad' v d → PostE K cad Rf Wx fr F' ad' (f (d, w)) Q → Q' v H) : PostE K cad Rf Wx false F ad r Q' := by
  cases r with
  | ok a =>
    obtain ⟨d, w⟩ := a
    exact fun v H F' ad' x l s r => k d w v H F' ad' x l s r (PostE.mono x l h)
  | er e w => exact h
  | bad => exact h
theorem PostE.bindA {r : R (List D × W)} {f : List D × W → R (D × W)} {Q : VK} {Q' : List V → Hp → Prop} (h : PostE K cad Rf Wx fr F ad (r.bind f) Q)
    (k : ∀ ds w vs H F' ad', Ex F F' → Le ad ad' → SR F' Rf ad' w H → RpAll K F' ad' vs ds → PostE K cad Rf Wx fr F' ad' (f (ds, w)) Q → Q' vs H) : PostA K cad Rf Wx F ad r Q' := by
  cases r with
  | ok a =>
    obtain ⟨d, w⟩ := a
    exact fun v H F' ad' x l s r => k d w v H F' ad' x l s r (PostE.mono x l h)
  | er e w => exact h
  | bad => exact h
/-- an end, where it stands -/
theorem PostE.here {Q : VK} (h : PostE K cad Rf Wx fr F ad (.ok (d, w)) Q) (s : SR F Rf ad w H) (r : Res K F ad Rf H fr v d) : Q v H := h v H F ad (Ex.refl F) (Le.refl ad) s r
theorem PostE.of_some {Q : VK} {o : Option D} (h : PostE K cad Rf Wx fr F ad (R.of w o) Q) : ∃ d, o = some d ∧ PostE K cad Rf Wx fr F ad (.ok (d, w)) Q := by
  cases o with
  | none => exact h.elim
  | some d => exact ⟨d, rfl, h⟩
/-- the heap may have grown ahead of an end -/
theorem PostE.end {Q : VK} (h : PostE K cad Rf Wx fr F ad (.ok (d, w)) Q) (x : Ex F F') (s : SR F' Rf ad w H) (r : Res K F' ad Rf H fr v d) : Q v H := h v H F' ad x (Le.refl ad) s r
/-- something new that holds vs -/
theorem PostE.newTup {Q : VK} {ds : List D} {vs : List V} (h : PostE K cad Rf Wx fr F ad (.ok (.tup ds, w)) Q) (s : SR F Rf ad w H) (r : RpAll K F ad vs ds) : ∀ p, H p = none → Q (.ref p) (upd H p (.tup vs)) := fun p hp => by
  have fp := s.fnone hp
  exact h.end (Ex.new fp) (s.laid hp) (Res.flat (fun _ q => nomatch q) ((r.mono (Ex.new fp) (Le.refl ad)).tup (.inl (.inl upd_same))))
theorem PostE.newLst {Q : VK} {ds : List D} {vs : List V} (h : PostE K cad Rf Wx fr F ad (.ok (.lst ds, w)) Q) (s : SR F Rf ad w H) (r : RpAll K F ad vs ds) : ∀ p, H p = none → Q (.ref p) (upd H p (.lst vs)) := fun p hp => by
  have fp := s.fnone hp
  cases fr with
  | true =>
    refine h.end (Ex.refl F) (s.lay hp) ⟨p, vs, rfl, upd_same, r, fp, s.rnone hp, fun n q hq => ?_⟩
    obtain ⟨⟨o1, h1⟩, ⟨o2, h2⟩⟩ := s.wk.there hq
    exact ⟨ne_of_none h1 hp, ne_of_none h2 hp⟩
  | false => exact h.end (Ex.new fp) (s.laid hp) ((r.mono (Ex.new fp) (Le.refl ad)).lst upd_same)
end

/-! ### weakening -/
theorem PE.imp {X : Cx} {e : Expr} {t t' : TE} (h : PE X e t) (k : ∀ σ H Q, t' σ H Q → t σ H Q) : PE X e t' := ⟨fun pins s σ H Q I x => h.run pins s σ H Q I (k σ H Q x)⟩
theorem PE.impI {X : Cx} {e : Expr} {t t' : TE} (h : PE X e t) (k : ∀ σ H Q h, HOk X.prog X.w H h → t' σ H Q → t σ H Q) : PE X e t' := ⟨fun pins s σ H Q I x => h.run pins s σ H Q I (k σ H Q s.heap I.hok x)⟩
theorem PA.imp {X : Cx} {e : List Expr} {t t' : TA} (h : PA X e t) (k : ∀ σ H Q, t' σ H Q → t σ H Q) : PA X e t' := ⟨fun pos pins s σ H Q I x => h.run pos pins s σ H Q I (k σ H Q x)⟩
theorem PT.imp {X : Cx} {e : Expr} {t t' : TT} (h : PT X e t) (k : ∀ σ H Q, t' σ H Q → t σ H Q) : PT X e t' := ⟨fun pins s σ H Q I x => h.run pins s σ H Q I (k σ H Q x)⟩
theorem PS.imp {X : Cx} {e : Stmt} {t t' : TS} (h : PS X e t) (k : ∀ D σ H, t' D σ H → t D σ H) : PS X e t' := ⟨fun pins s σ H D I x => h.run pins s σ H D I (k D σ H x)⟩
theorem PSs.imp {X : Cx} {e : List Stmt} {t t' : TS} (h : PSs X e t) (k : ∀ D σ H, t' D σ H → t D σ H) : PSs X e t' := ⟨fun pins s σ H D I x => h.run pins s σ H D I (k D σ H x)⟩

section
variable {X : Cx} {K : KP} {cad : Nat → Addr} {Wx : WX} {Φ : Fns} {fr : Bool} {pos : Pos} {ea eb ec : Expr} {a b c : LE}
/-- a new list is known at once -/
theorem rdE_frozen {e : Expr} {l : LE} (h : PE X e (rdE K cad Wx Φ true l)) : PE X e (rdE K cad Wx Φ false l) := PE.imp h fun σ H Q ⟨F, Rf, ad, env, w, s, n, p⟩ => by
  refine ⟨F, Rf, ad, env, w, s, n, ?_⟩
  cases e : ev Φ env l w with
  | ok x =>
    rw [e] at p
    intro v H' F' ad' x l s' r
    obtain ⟨F2, x2, s2, r2⟩ := r.freeze s'
    exact p v H' F2 ad' (x.trans x2) l s2 r2
  | er _ _ => rw [e] at p; exact p
  | bad => rw [e] at p; exact p
theorem s_v {i : Nat} {x : Str} (hN : X.N[i]? = some x) (hv : Vis X.env.scope x) (hd : (x == ("__debug__" : Str)) = false) (hcd : (x == ("__classdict__" : Str)) = false) : PE X (.Name x pos) (rdE K cad Wx Φ false (.v i)) :=
  PE.imp (pe_var hN hv hd hcd) fun σ H Q ⟨F, Rf, ad, env, w, s, n, p⟩ => by
    obtain ⟨d, e, p⟩ := PostE.of_some p
    have e' : env[i]? = some (some d) := by
      cases q : env[i]? with
      | none => rw [q] at e; cases e
      | some o => rw [q] at e; exact congrArg some e
    obtain ⟨v, h1, h2⟩ := n.2 i d e'
    exact ⟨v, h1, p.here s (.of h2)⟩
/-- something that is what it is -/
theorem s_c {e : Expr} {v : V} {d : D} (he : PE X e (tC v)) (r : ∀ F ad, Rp K F ad v d) : PE X e (rdE K cad Wx Φ false (.c d)) :=
  PE.imp he fun σ H Q ⟨F, Rf, ad, env, w, s, n, p⟩ => PostE.here p s (.of (r F ad))
theorem s_g {e : Expr} {v : V} {d : D} {x : Str} (he : PE X e (tC v)) (r : ∀ F ad, Rp K F ad v d) : PE X e (rdE K cad Wx Φ false (.g x d)) :=
  PE.imp he fun σ H Q ⟨F, Rf, ad, env, w, s, n, p⟩ => PostE.here p s (.of (r F ad))
theorem s_nil : PA X [] (rdA K cad Wx Φ .nil) := PA.imp pa_nil fun σ H Q ⟨F, Rf, ad, env, w, s, n, p⟩ => p [] H F ad (Ex.refl F) (Le.refl ad) s .nil
theorem cons_imp {l : LE} {ls : LEs} (σ : L2.St) (H : Hp) (Q : List V → Hp → Prop) (h : rdA K cad Wx Φ (.cons l ls) σ H Q) : tCons (rdE K cad Wx Φ false l) (rdA K cad Wx Φ ls) σ H Q := by
  obtain ⟨F, Rf, ad, env, w, s, n, p⟩ := h
  refine ⟨F, Rf, ad, env, w, s, n, ?_⟩
  rw [evs] at p
  cases e1 : ev Φ env l w with
  | er _ _ => rw [e1] at p; exact p
  | bad => rw [e1] at p; exact p
  | ok x =>
    obtain ⟨d, w1⟩ := x
    rw [e1] at p
    intro v H1 F1 ad1 x1 l1 s1 r1
    refine ⟨F1, Rf, ad1, env, w1, s1, n.mono x1 l1, ?_⟩
    have p : PostA K cad Rf (WE Wx σ) F ad ((evs Φ env ls w1).bind fun x => .ok (d :: x.1, x.2)) Q := p
    cases e2 : evs Φ env ls w1 with
    | er _ _ => rw [e2] at p; exact ErEnd.mono x1 l1 p
    | bad => rw [e2] at p; exact p
    | ok y =>
      obtain ⟨ds, w2⟩ := y
      rw [e2] at p
      intro vs H2 F2 ad2 x2 l2 s2 r2
      exact p (v :: vs) H2 F2 ad2 (x1.trans x2) (l1.trans l2) s2 (.cons (r1.rp.mono x2 l2) r2)
theorem s_cons {es : List Expr} {e : Expr} {l : LE} {ls : LEs} (h : PE X e (rdE K cad Wx Φ false l)) (t : PA X es (rdA K cad Wx Φ ls)) (hs : starEach (e :: es) X.env = (false, eval e X.env) :: starEach es X.env) : PA X (e :: es) (rdA K cad Wx Φ (.cons l ls)) :=
  PA.imp (pa_cons h t hs) cons_imp
theorem PK.imp {kws : List Keyword} {t t' : TA} (h : PK X kws t) (k : ∀ σ H Q, t' σ H Q → t σ H Q) : PK X kws t' := ⟨fun pos pins s σ H Q I x => h.run pos pins s σ H Q I (k σ H Q x)⟩
theorem sk_nil : PK X [] (rdA K cad Wx Φ .nil) := PK.imp pk_nil fun σ H Q ⟨F, Rf, ad, env, w, s, n, p⟩ => p [] H F ad (Ex.refl F) (Le.refl ad) s .nil
theorem sk_cons {kws : List Keyword} {e : Expr} {nm : Option Str} {kpos : Pos} {l : LE} {ls : LEs} (h : PE X e (rdE K cad Wx Φ false l)) (t : PK X kws (rdA K cad Wx Φ ls)) : PK X (⟨nm, e, kpos⟩ :: kws) (rdA K cad Wx Φ (.cons l ls)) :=
  PK.imp (pk_cons h t) cons_imp
theorem big_le {n : Nat} (h : n ≤ big) : n ≤ sizeLine := by rw [sizeLine_eq]; exact h
theorem s_tup {es : List Expr} {ls : LEs} {x1} (h : PA X es (rdA K cad Wx Φ ls)) : PE X (.Tuple es x1 pos) (rdE K cad Wx Φ fr (.tup ls)) :=
  PE.imp (pe_tup h) fun σ H Q ⟨F, Rf, ad, env, w, s, n, p⟩ => by
    rw [ev] at p
    refine ⟨F, Rf, ad, env, w, s, n, PostE.bindA p fun ds w' vs H' F' ad' x l s' r p' => ?_⟩
    have p' : PostE K cad Rf (WE Wx σ) fr F' ad' (if ds.length ≤ big then .ok (.tup ds, w') else .bad) Q := p'
    split at p'
    · rename_i hz
      exact ⟨by rw [r.1]; exact big_le hz, p'.newTup s' r⟩
    · exact p'.elim
theorem s_lst {es : List Expr} {ls : LEs} (h : PA X es (rdA K cad Wx Φ ls)) : PE X (.List es pos) (rdE K cad Wx Φ fr (.lst ls)) :=
  PE.imp (pe_lst h) fun σ H Q ⟨F, Rf, ad, env, w, s, n, p⟩ => by
    rw [ev] at p
    refine ⟨F, Rf, ad, env, w, s, n, PostE.bindA p fun ds w' vs H' F' ad' x l s' r p' => ?_⟩
    have p' : PostE K cad Rf (WE Wx σ) fr F' ad' (if ds.length ≤ big then .ok (.lst ds, w') else .bad) Q := p'
    split at p'
    · rename_i hz
      exact ⟨by rw [r.1]; exact big_le hz, p'.newLst s' r⟩
    · exact p'.elim
/-- two operands: r is what is asked of their values -/
theorem s_two {m : D → D → W → R (D × W)} {r : R2} {E : LE} (hE : ∀ env w, ev Φ env E w = (ev Φ env a w).bind fun (x, w) => (ev Φ env b w).bind fun (y, w) => m x y w)
    (hr : ∀ σ F Rf ad w H Q x y v u, SR F Rf ad w H → Rp K F ad v x → Rp K F ad u y → PostE K cad Rf (WE Wx σ) fr F ad (m x y w) Q → r v u H Q) :
    ∀ σ H Q, rdE K cad Wx Φ fr E σ H Q → tOp r (rdE K cad Wx Φ false a) (rdE K cad Wx Φ false b) σ H Q := fun σ H Q ⟨F, Rf, ad, env, w, s, n, p⟩ => by
  rw [hE] at p
  refine ⟨F, Rf, ad, env, w, s, n, PostE.bind p fun x w1 v H1 F1 ad1 x1 l1 s1 r1 p1 => ?_⟩
  refine ⟨F1, Rf, ad1, env, w1, s1, n.mono x1 l1, PostE.bind p1 fun y w2 u H2 F2 ad2 x2 l2 s2 r2 p2 => ?_⟩
  exact hr σ F2 Rf ad2 w2 H2 Q x y v u s2 (r1.mono x2 l2) r2 p2
theorem s_one {m : D → W → R (D × W)} {r : V → Hp → VK → Prop} {E : LE} (hE : ∀ env w, ev Φ env E w = (ev Φ env a w).bind fun (x, w) => m x w)
    (hr : ∀ σ F Rf ad w H Q x v, SR F Rf ad w H → Rp K F ad v x → PostE K cad Rf (WE Wx σ) fr F ad (m x w) Q → r v H Q) :
    ∀ σ H Q, rdE K cad Wx Φ fr E σ H Q → rdE K cad Wx Φ false a σ H fun x H1 => r x H1 Q := fun σ H Q ⟨F, Rf, ad, env, w, s, n, p⟩ => by
  rw [hE] at p
  exact ⟨F, Rf, ad, env, w, s, n, PostE.bind p fun x w1 v H1 F1 ad1 x1 l1 s1 r1 p1 => hr σ F1 Rf ad1 w1 H1 Q x v s1 r1 p1⟩
end
end LL
/-! == LL4 == -/
set_option Elab.async false
set_option linter.all false
set_option maxRecDepth 100000
set_option maxHeartbeats 2000000
/-! LL, part 4: the operators -/
namespace LL
open PySem PySem.Spec PyProof.Rows L2

/-! ### as the library's data -/
mutual
def D.toPy : D → PyData
  | .non => .none
  | .bl b => .bool b
  | .int i => .int i
  | .str s => .str s
  | .tup xs => .tuple (D.toPys xs)
  | .lst xs => .list (D.toPys xs)
  | _ => .none
def D.toPys : List D → List PyData
  | [] => []
  | x :: xs => D.toPy x :: D.toPys xs
end
mutual
theorem eqv_toPy : ∀ d e : D, d.plain = true → e.plain = true → PyData.eqv d.toPy e.toPy = D.eqv d e
  | .non, e, _, he => by cases e <;> first | rfl | (simp [D.plain] at he)
  | .bl _, e, _, he => by cases e <;> first | rfl | (simp [D.plain] at he)
  | .int _, e, _, he => by cases e <;> first | rfl | (simp [D.plain] at he)
  | .str _, e, _, he => by cases e <;> first | rfl | (simp [D.plain] at he)
  | .tup xs, e, hd, he => by
    cases e with
    | tup ys => exact eqvs_toPy xs ys (by simpa [D.plain] using hd) (by simpa [D.plain] using he)
    | dct => simp [D.plain] at he
    | ob => simp [D.plain] at he
    | scr => simp [D.plain] at he
    | _ => simp [D.toPy, PyData.eqv, D.eqv]
  | .lst xs, e, hd, he => by
    cases e with
    | lst ys => exact eqvs_toPy xs ys (by simpa [D.plain] using hd) (by simpa [D.plain] using he)
    | dct => simp [D.plain] at he
    | ob => simp [D.plain] at he
    | scr => simp [D.plain] at he
    | _ => simp [D.toPy, PyData.eqv, D.eqv]
  | .dct _ _, _, hd, _ => by simp [D.plain] at hd
  | .ob _, _, hd, _ => by simp [D.plain] at hd
  | .scr _, _, hd, _ => by simp [D.plain] at hd
theorem eqvs_toPy : ∀ d e : List D, D.plains d = true → D.plains e = true → PyData.eqvAll (D.toPys d) (D.toPys e) = D.eqvs d e
  | [], [], _, _ => rfl
  | [], _ :: _, _, _ => rfl
  | _ :: _, [], _, _ => rfl
  | x :: xs, y :: ys, hd, he => by
    have h1 : x.plain = true ∧ D.plains xs = true := by simpa [D.plains] using hd
    have h2 : y.plain = true ∧ D.plains ys = true := by simpa [D.plains] using he
    show (PyData.eqv x.toPy y.toPy && PyData.eqvAll (D.toPys xs) (D.toPys ys)) = (D.eqv x y && D.eqvs xs ys)
    rw [eqv_toPy x y h1.1 h2.1, eqvs_toPy xs ys h1.2 h2.2]
end
mutual
theorem plain_toPy : ∀ d : D, d.plain = true → d.toPy.plain = true
  | .non, _ => rfl
  | .bl _, _ => rfl
  | .int _, _ => rfl
  | .str _, _ => rfl
  | .tup xs, h => by
    show PyData.plainAll (D.toPys xs) = true
    exact plains_toPy xs (by simpa [D.plain] using h)
  | .lst xs, h => by
    show PyData.plainAll (D.toPys xs) = true
    exact plains_toPy xs (by simpa [D.plain] using h)
  | .dct _ _, h => by simp [D.plain] at h
  | .ob _, h => by simp [D.plain] at h
  | .scr _, h => by simp [D.plain] at h
theorem plains_toPy : ∀ d : List D, D.plains d = true → PyData.plainAll (D.toPys d) = true
  | [], _ => rfl
  | x :: xs, h => by
    have h1 : x.plain = true ∧ D.plains xs = true := by simpa [D.plains] using h
    show (PyData.plain x.toPy && PyData.plainAll (D.toPys xs)) = true
    rw [plain_toPy x h1.1, plains_toPy xs h1.2]; rfl
end
mutual
theorem depth_toPy : ∀ d : D, d.toPy.depth = d.depth
  | .non => rfl
  | .bl _ => rfl
  | .int _ => rfl
  | .str _ => rfl
  | .tup xs => by
    show PyData.depthAll (D.toPys xs) + 1 = D.depths xs + 1
    rw [depths_toPy xs]
  | .lst xs => by
    show PyData.depthAll (D.toPys xs) + 1 = D.depths xs + 1
    rw [depths_toPy xs]
  | .dct _ _ => rfl
  | .ob _ => rfl
  | .scr _ => rfl
theorem depths_toPy : ∀ d : List D, PyData.depthAll (D.toPys d) = D.depths d
  | [] => rfl
  | x :: xs => by
    show max (PyData.depth x.toPy) (PyData.depthAll (D.toPys xs)) = max (D.depth x) (D.depths xs)
    rw [depth_toPy x, depths_toPy xs]
end
theorem any_toPy (x : D) (hx : x.plain = true) : ∀ ys : List D, D.plains ys = true → ((D.toPys ys).any fun y => PyData.eqv y x.toPy) = ys.any fun y => D.eqv y x
  | [], _ => rfl
  | y :: ys, h => by
    have h1 : y.plain = true ∧ D.plains ys = true := by simpa [D.plains] using h
    show (PyData.eqv y.toPy x.toPy || (D.toPys ys).any fun y => PyData.eqv y x.toPy) = (D.eqv y x || ys.any fun y => D.eqv y x)
    rw [eqv_toPy y x h1.1 hx, any_toPy x hx ys h1.2]
section
variable {K : KP} {F : Hp} {ad : Ads}
theorem SqT.to {H : Hp} {a : Addr} {xs : List V} (e : Ex F H) (h : SqT K.1 F a xs) : SqT K.1 H a xs := ex_t e h
mutual
theorem dp_of {H : Hp} (e : Ex F H) : ∀ (d : D) (v : V), d.plain = true → Rp K F ad v d → Dp K.1 H v d.toPy
  | .non, _, _, h => by cases h; exact .non
  | .bl _, _, _, h => by cases h; exact .bl _
  | .int _, _, _, h => by cases h; exact .int _
  | .str _, _, _, h => by cases h; exact .str _
  | .tup xs, _, hp, h => by
    obtain ⟨a, vs, rfl, h1, h2⟩ := h.tup_inv
    exact .tup (ex_t e h1) (dps_of e xs vs (by simpa [D.plain] using hp) h2)
  | .lst xs, _, hp, h => by
    obtain ⟨a, vs, rfl, h1, h2⟩ := h.lst_inv
    exact .lst (.inl (.inl (e _ _ h1))) (dps_of e xs vs (by simpa [D.plain] using hp) h2)
  | .dct _ _, _, h, _ => by simp [D.plain] at h
  | .ob _, _, h, _ => by simp [D.plain] at h
  | .scr _, _, h, _ => by simp [D.plain] at h
theorem dps_of {H : Hp} (e : Ex F H) : ∀ (ds : List D) (vs : List V), D.plains ds = true → RpAll K F ad vs ds → DpAll K.1 H vs (D.toPys ds)
  | [], vs, _, h => by rw [h.nil_of]; exact .nil
  | d :: ds, vs, hp, h => by
    have h1 : d.plain = true ∧ D.plains ds = true := by simpa [D.plains] using hp
    cases vs with
    | nil => exact absurd h.1 (by simp)
    | cons v vs =>
      obtain ⟨d', es, q, r, t⟩ := h.uncons
      cases q
      exact .cons (dp_of e d v h1.1 r) (dps_of e ds vs h1.2 t)
end
end


/-- what an operation's answer z may be used for -/
def EndE (K : KP) (Rf : Hp) (fr : Bool) (F : Hp) (ad : Ads) (w : W) (z : D) (Q : VK) : Prop := ∀ v H' F', Ex F F' → SR F' Rf ad w H' → Res K F' ad Rf H' fr v z → Q v H'
section
variable {K : KP} {Rf F H : Hp} {fr : Bool} {ad : Ads} {w : W} {z : D} {Q : VK} {vs : List V} {ds : List D}
theorem EndE.here {v : V} (h : EndE K Rf fr F ad w z Q) (s : SR F Rf ad w H) (hz : ∀ ds, z ≠ .lst ds) (r : Rp K F ad v z) : Q v H := h v H F (Ex.refl F) s (Res.flat hz r)
theorem EndE.newTup (h : EndE K Rf fr F ad w (.tup ds) Q) (s : SR F Rf ad w H) (r : RpAll K F ad vs ds) : ∀ p, H p = none → Q (.ref p) (upd H p (.tup vs)) := fun p hp =>
  h _ _ _ (Ex.new (s.fnone hp)) (s.laid hp) (Res.flat (fun _ q => nomatch q) ((r.mono (Ex.new (s.fnone hp)) (Le.refl ad)).tup (.inl (.inl upd_same))))
theorem EndE.newLst (h : EndE K Rf fr F ad w (.lst ds) Q) (s : SR F Rf ad w H) (r : RpAll K F ad vs ds) : ∀ p, H p = none → Q (.ref p) (upd H p (.lst vs)) := fun p hp => by
  have fp := s.fnone hp
  cases fr with
  | true =>
    refine h _ _ _ (Ex.refl F) (s.lay hp) ⟨p, vs, rfl, upd_same, r, fp, s.rnone hp, fun n q hq => ?_⟩
    obtain ⟨⟨o1, h1⟩, ⟨o2, h2⟩⟩ := s.wk.there hq
    exact ⟨ne_of_none h1 hp, ne_of_none h2 hp⟩
  | false => exact h _ _ _ (Ex.new fp) (s.laid hp) ((r.mono (Ex.new fp) (Le.refl ad)).lst upd_same)
/-- a list that stands already: known, so its answer is no new one -/
def rD (K : KP) (fr : Bool) (f : D → D → Option D) : R2 := fun x y H Q => ∃ F Rf ad w d e z, SR F Rf ad w H ∧ Rp K F ad x d ∧ Rp K F ad y e ∧ f d e = some z ∧ EndE K Rf fr F ad w z Q
def rD1 (K : KP) (fr : Bool) (f : D → Option D) : V → Hp → VK → Prop := fun x H Q => ∃ F Rf ad w d z, SR F Rf ad w H ∧ Rp K F ad x d ∧ f d = some z ∧ EndE K Rf fr F ad w z Q
def rDs (K : KP) (fr : Bool) (f : List D → Option D) : List V → Hp → VK → Prop := fun xs H Q => ∃ F Rf ad w ds z, SR F Rf ad w H ∧ RpAll K F ad xs ds ∧ f ds = some z ∧ EndE K Rf fr F ad w z Q
end

section
variable {X : Cx} {fr : Bool}
theorem ofs {α : Type} {c : Prop} [Decidable c] {a z : α} (h : (if c then some a else none) = some z) : c ∧ a = z := by
  split at h
  · rename_i q; exact ⟨q, Option.some.inj h⟩
  · cases h
theorem big_eq : big = sizeLine := by rw [sizeLine_eq]; rfl
theorem lt_size {n : Nat} (h : n ≤ big) : n ≤ sizeLine := by rw [← big_eq]; exact h
/-! ### + - * // % ** -/
theorem o_add : OpR X (binaryOp .Add) (rD (kp X) fr (opD .add)) := by
  intro pins s σ H x y v u Q I rx ry ⟨F, Rf, ad, w, d, e, z, sr, r1, r2, ef, q⟩
  unfold opD at ef
  split at ef <;> first | contradiction | skip
  · cases ef; cases r1; cases r2
    exact op_add pins s σ H _ _ v u Q I rx ry ⟨_, _, rfl, rfl, q.here sr (fun _ h => nomatch h) (.int _)⟩
  · obtain ⟨hz, rfl⟩ := ofs ef
    cases r1; cases r2
    exact op_add_str pins s σ H _ _ v u Q I rx ry ⟨_, _, rfl, rfl, lt_size hz, q.here sr (fun _ h => nomatch h) (.str _)⟩
  · obtain ⟨hz, rfl⟩ := ofs ef
    obtain ⟨a, vs, rfl, h1, k1⟩ := r1.tup_inv
    obtain ⟨b, ws, rfl, h2, k2⟩ := r2.tup_inv
    refine op_catA pins s σ H _ _ v u Q I rx ry ⟨a, b, vs, ws, rfl, rfl, ex_t sr.fx h1, ex_t sr.fx h2, by rw [k1.1, k2.1]; exact lt_size hz, fun e => ?_, fun _ e => ?_, fun _ _ => q.newTup sr (k1.append k2)⟩
    · subst e
      rw [k1.of_nil] at q
      exact q.here sr (fun _ h => nomatch h) r2
    · subst e
      rw [k2.of_nil, List.append_nil] at q
      exact q.here sr (fun _ h => nomatch h) r1
  · obtain ⟨hz, rfl⟩ := ofs ef
    obtain ⟨a, vs, rfl, h1, k1⟩ := r1.lst_inv
    obtain ⟨b, ws, rfl, h2, k2⟩ := r2.lst_inv
    exact op_cat pins s σ H _ _ v u Q I rx ry ⟨a, b, vs, ws, rfl, rfl, sr.fx _ _ h1, sr.fx _ _ h2, by rw [k1.1, k2.1]; exact lt_size hz, q.newLst sr (k1.append k2)⟩
theorem o_sub : OpR X (binaryOp .Sub) (rD (kp X) fr (opD .sub)) := by
  intro pins s σ H x y v u Q I rx ry ⟨F, Rf, ad, w, d, e, z, sr, r1, r2, ef, q⟩
  unfold opD at ef
  split at ef <;> first | contradiction | skip
  cases ef; cases r1; cases r2
  exact op_sub pins s σ H _ _ v u Q I rx ry ⟨_, _, rfl, rfl, q.here sr (fun _ h => nomatch h) (.int _)⟩
theorem o_mod : OpR X (binaryOp .Mod) (rD (kp X) fr (opD .mod)) := by
  intro pins s σ H x y v u Q I rx ry ⟨F, Rf, ad, w, d, e, z, sr, r1, r2, ef, q⟩
  unfold opD at ef
  split at ef <;> first | contradiction | skip
  obtain ⟨hz, rfl⟩ := ofs ef
  cases r1; cases r2
  exact op_modN pins s σ H _ _ v u Q I rx ry ⟨_, _, rfl, rfl, hz, q.here sr (fun _ h => nomatch h) (.int _)⟩
theorem o_pow : OpR X (binaryOp .Pow) (rD (kp X) fr (opD .pow)) := by
  intro pins s σ H x y v u Q I rx ry ⟨F, Rf, ad, w, d, e, z, sr, r1, r2, ef, q⟩
  unfold opD at ef
  split at ef <;> first | contradiction | skip
  obtain ⟨hz, rfl⟩ := ofs ef
  simp only [Bool.and_eq_true, decide_eq_true_eq] at hz
  cases r1; cases r2
  exact op_pow pins s σ H _ _ v u Q I rx ry ⟨_, _, rfl, rfl, ⟨hz.1.1, hz.1.2, hz.2⟩, q.here sr (fun _ h => nomatch h) (.int _)⟩
theorem o_fdiv : OpR X (binaryOp .FloorDiv) (rD (kp X) fr (opD .fdiv)) := by
  intro pins s σ H x y v u Q I rx ry ⟨F, Rf, ad, w, d, e, z, sr, r1, r2, ef, q⟩
  unfold opD at ef
  split at ef <;> first | contradiction | skip
  obtain ⟨hz, rfl⟩ := ofs ef
  simp only [Bool.and_eq_true, Bool.or_eq_true, decide_eq_true_eq] at hz
  cases r1; cases r2
  rcases hz with hz | hz
  · exact op_fdivN pins s σ H _ _ v u Q I rx ry ⟨_, _, rfl, rfl, hz, q.here sr (fun _ h => nomatch h) (.int _)⟩
  · refine op_fdivW pins s σ H _ _ v u Q I rx ry ⟨_, _, rfl, rfl, hz, q.here sr (fun _ h => nomatch h) ?_⟩
    rw [Int.fdiv_eq_ediv_of_nonneg _ (by omega)]
    exact .int _
/-- tuple * int, the same object or a new one -/
theorem tuple_mul1 (l : Addr) (items : Array Value) (n : Nat) (dd : Option Addr) (sl : Array (Option Value)) (x : Int) (u : Tok) (c0 : (decide (x < -(2 ^ 63)) || decide (x ≥ 2 ^ 63)) = false) (c1 : (items.isEmpty || x == 1) = true) :
    Meets (Builtin.«tuple.__mul__» ⟨[.ref l, .int x u], []⟩) (fun _ R s => s.heap.get? l = some { cls := .type "tuple", dict := dd, data := .seq items n, slots := sl } ∧ R (.ok (.ret (Value.ref l))) s) :=
  .of_wp fun prog w A R s h => by
    obtain ⟨hp, g, d, tk, os⟩ := s
    obtain ⟨hl, h⟩ := h
    have f1 := AutoSeq1.idx_int
    wp_walk using wpAny_loadPart' hl
    repeat (first
      | (refine wpAny_ite_false (decide_eq_false (by rw [c0]; exact Bool.false_ne_true)) ?_; wp_walk using wpAny_loadPart' hl)
      | (refine wpAny_ite_true (decide_eq_true c1) ?_; wp_walk using wpAny_loadPart' hl))
    exact ⟨_, rfl, h⟩
theorem flat_one {α : Type} (xs : List α) : (List.replicate (1 : Int).toNat xs).flatten = xs := by simp
theorem flat_nil {α : Type} (k : Nat) : (List.replicate k ([] : List α)).flatten = [] := by
  induction k with
  | zero => rfl
  | succ k ih => rw [List.replicate_succ, List.flatten_cons, ih]; rfl
theorem o_repT {l : Addr} {k : Int} {xs : List V} {pins : List (Addr × Obj)} {s : Shared} {σ : L2.St} {H : Hp} {v u : Value} {Q : VK} (I : Inv X pins σ H s) (rx : RelV (.ref l) v) (ry : RelV (.int k) u) (hT : SqT X.K H l xs) (h1 : 1 ≤ k) (h2 : k ≤ 100000) (hz : xs.length * k.toNat ≤ big)
    (q1 : (xs = [] ∨ k = 1) → Q (.ref l) H) (q2 : ∀ p, H p = none → Q (.ref p) (upd H p (.tup (List.replicate k.toNat xs).flatten))) : wpAny (model X.prog X.w) X.A (binaryOp .Mult v u) (EP X pins σ Q) X.xe s := by
  cases rx
  obtain ⟨t, rfl⟩ := ry
  obtain ⟨its, r, ⟨⟨cls, dd, data, sl⟩, ho, hc, n, hd⟩, hs⟩ := I.tuple hT
  simp only at hc hd
  subst hc hd
  have hle : its.length = xs.length := r.length.symm
  have c0 : (decide (k < -(2 ^ 63)) || decide (k ≥ 2 ^ 63)) = false := by
    rw [decide_eq_false (by omega), decide_eq_false (by omega)] <;> rfl
  by_cases c : xs = [] ∨ k = 1
  · have c1 : (its.toArray.isEmpty || k == 1) = true := by
      rcases c with c | c
      · rw [c] at hle
        rw [List.eq_nil_of_length_eq_zero hle]; rfl
      · subst c; simp
    refine wpAny_binaryOp_repeat_ref (T := "tuple") (U := "int") (by decide) ⟨_, ho, rfl⟩ (fun s' => typeIs_int s' k t) noFill_tuple_mul F.fills_int_mul F.slot_int_rmul repeat_tuple F.slot_int_index.lookup
      (call_meets F.slot_int_rmul (typeIs_int s k t) F.entry_int_rmul (F.args_int_rmul_2 _ _) (int_rmul_tuple k t l its.toArray n dd sl)
        ⟨ho, rfl, ⟨_, ho, rfl⟩, call_meets F.slot_tuple_mul ⟨_, ho, rfl⟩ F.entry_tuple_mul (F.args_tuple_mul_2 _ _) (tuple_mul1 l its.toArray n dd sl k t c0 c1) ⟨ho, ?_⟩⟩)
    exact ⟨.ref l, H, I, rfl, q1 c⟩
  · have hx : xs ≠ [] := fun e => c (.inl e)
    have hk : k ≠ 1 := fun e => c (.inr e)
    have hi : its.toArray.isEmpty = false := by
      cases its with
      | nil => exact absurd (List.eq_nil_of_length_eq_zero hle.symm) hx
      | cons a b => rfl
    have c1 : (its.toArray.isEmpty || k == 1) = false := by
      rw [hi, Bool.false_or]
      exact beq_eq_false_iff_ne.mpr hk
    have c2 : (decide (k ≤ 0) || its.toArray.isEmpty) = false := by
      rw [hi, Bool.or_false]
      exact decide_eq_false (by omega)
    have hm : ((its.toArray.size : Nat) : Int) * k ≤ 16777216 := by
      rw [List.size_toArray, hle]
      have e : k = ((k.toNat : Nat) : Int) := by omega
      rw [e, ← Int.natCast_mul]
      have : big = 16777216 := rfl
      omega
    have c4 : Builtin.Tuple.tupleTooMany (((its.toArray.size : Nat) : Int) * k) = false := by
      unfold Builtin.Tuple.tupleTooMany
      rw [sizeLine_eq]
      exact decide_eq_false (by omega)
    have flen : (List.replicate k.toNat its).flatten.length ≤ sizeLine := by
      rw [PyProof.Rows.lm_len_rep_flat, hle, Nat.mul_comm]
      exact lt_size hz
    refine wpAny_binaryOp_repeat_ref (T := "tuple") (U := "int") (by decide) ⟨_, ho, rfl⟩ (fun s' => typeIs_int s' k t) noFill_tuple_mul F.fills_int_mul F.slot_int_rmul repeat_tuple F.slot_int_index.lookup
      (call_meets F.slot_int_rmul (typeIs_int s k t) F.entry_int_rmul (F.args_int_rmul_2 _ _) (int_rmul_tuple k t l its.toArray n dd sl)
        ⟨ho, rfl, ⟨_, ho, rfl⟩, call_meets F.slot_tuple_mul ⟨_, ho, rfl⟩ F.entry_tuple_mul (F.args_tuple_mul_2 _ _) (tuple_mulW l its.toArray n dd sl k t c0 c1 c2 (by omega) c4 (by rw [size_rep, List.size_toArray]; exact flen)) ⟨ho, ?_⟩⟩)
    rw [size_rep]
    refine ⟨.ref s.heap.objs.size, _, I.laid (t' := s.toks) (o := .tup (List.replicate k.toNat xs).flatten) (fun b ob q => Heap.get?_push_of_some _ q) (Nat.le_refl _) ?_, rfl, q2 _ (I.hok.fresh (Nat.le_refl _))⟩
    exact ⟨by rw [PyProof.Rows.lm_len_rep_flat, Nat.mul_comm]; exact lt_size hz, _, r.rep k.toNat, IsTup.new _ _⟩
theorem o_mul : OpR X (binaryOp .Mult) (rD (kp X) fr (opD .mul)) := by
  intro pins s σ H x y v u Q I rx ry ⟨F, Rf, ad, w, d, e, z, sr, r1, r2, ef, q⟩
  unfold opD at ef
  split at ef <;> first | contradiction | skip
  · obtain ⟨hz, rfl⟩ := ofs ef
    simp only [Bool.and_eq_true, Bool.or_eq_true, decide_eq_true_eq] at hz
    cases r1; cases r2
    rcases hz with hz | hz
    · exact op_mul pins s σ H _ _ v u Q I rx ry ⟨_, _, rfl, rfl, hz, q.here sr (fun _ h => nomatch h) (.int _)⟩
    · exact op_mulW pins s σ H _ _ v u Q I rx ry ⟨_, _, rfl, rfl, hz, q.here sr (fun _ h => nomatch h) (.int _)⟩
  · obtain ⟨hz, rfl⟩ := ofs ef
    simp only [Bool.and_eq_true, Bool.or_eq_true, decide_eq_true_eq] at hz
    obtain ⟨a, vs, rfl, h1, k1⟩ := r1.lst_inv
    cases r2
    exact op_rep pins s σ H _ _ v u Q I rx ry ⟨a, _, vs, rfl, rfl, sr.fx _ _ h1, hz.1.1, hz.1.2, by rw [k1.1]; exact lt_size hz.2, q.newLst sr (k1.rep _)⟩
  · obtain ⟨hz, rfl⟩ := ofs ef
    simp only [Bool.and_eq_true, Bool.or_eq_true, decide_eq_true_eq] at hz
    obtain ⟨a, vs, rfl, h1, k1⟩ := r1.tup_inv
    have r1' := r1
    cases r2
    refine o_repT I rx ry (ex_t sr.fx h1) hz.1.1 hz.1.2 (by rw [k1.1]; exact hz.2) (fun c => ?_) (q.newTup sr (k1.rep _))
    rcases c with c | c
    · subst c
      rw [k1.of_nil, flat_nil] at q
      rw [k1.of_nil] at r1'
      exact q.here sr (fun _ h => nomatch h) r1'
    · subst c
      rw [flat_one] at q
      exact q.here sr (fun _ h => nomatch h) r1'
theorem o_any (o : Op2) : ∃ op, OpR X (binaryOp op) (rD (kp X) fr (opD o)) := by
  cases o
  · exact ⟨_, o_add⟩
  · exact ⟨_, o_sub⟩
  · exact ⟨_, o_mul⟩
  · exact ⟨_, o_fdiv⟩
  · exact ⟨_, o_mod⟩
  · exact ⟨_, o_pow⟩
def opOf : Op2 → Operator
  | .add => .Add
  | .sub => .Sub
  | .mul => .Mult
  | .fdiv => .FloorDiv
  | .mod => .Mod
  | .pow => .Pow
theorem o_op : ∀ o : Op2, OpR X (binaryOp (opOf o)) (rD (kp X) fr (opD o))
  | .add => o_add
  | .sub => o_sub
  | .mul => o_mul
  | .fdiv => o_fdiv
  | .mod => o_mod
  | .pow => o_pow

/-! ### comparisons -/
theorem flat_bl {b : Bool} : ∀ ds, D.bl b ≠ .lst ds := fun _ h => nomatch h
theorem rD_bl {K : KP} {Rf F H : Hp} {ad : Ads} {w : W} {Q : VK} {b c : Bool} (q : EndE K Rf fr F ad w (.bl b) Q) (s : SR F Rf ad w H) (e : b = c) : Q (.bl c) H := by
  subst e
  exact q.here s flat_bl (.bl b)
theorem eqvs_len : ∀ xs ys : List D, xs.length ≠ ys.length → D.eqvs xs ys = false
  | [], [], h => absurd rfl h
  | [], _ :: _, _ => rfl
  | _ :: _, [], _ => rfl
  | x :: xs, y :: ys, h => by
    show (D.eqv x y && D.eqvs xs ys) = false
    rw [eqvs_len xs ys (by simpa using h), Bool.and_false]
theorem mapbl {o : Option Bool} {z : D} (h : o.map D.bl = some z) : ∃ b, o = some b ∧ z = .bl b := by
  cases o with
  | none => cases h
  | some b => exact ⟨b, rfl, (Option.some.inj h).symm⟩
theorem mapnot {o : Option Bool} {z : Bool} (h : o.map (!·) = some z) : ∃ b, o = some b ∧ z = !b := by
  cases o with
  | none => cases h
  | some b => exact ⟨b, rfl, (Option.some.inj h).symm⟩
theorem eqD_of {d e : D} {b : Bool} (h : eqD d e = some b) : b = D.eqv d e ∧ ((d.plain = true ∧ e.plain = true ∧ min d.depth e.depth ≤ 60) ∨ ∃ xs ys, d = .lst xs ∧ e = .lst ys ∧ xs.length ≠ ys.length) := by
  unfold eqD at h
  obtain ⟨hk, rfl⟩ := ofs h
  refine ⟨rfl, ?_⟩
  unfold D.eqOk at hk
  simp only [Bool.or_eq_true, Bool.and_eq_true, decide_eq_true_eq] at hk
  rcases hk with ⟨⟨p1, p2⟩, dz⟩ | hk
  · exact .inl ⟨p1, p2, dz⟩
  · split at hk
    · exact .inr ⟨_, _, rfl, rfl, by simpa using hk⟩
    · cases hk
theorem c_eq (hu : X.A.units + 64 < cLine) : OpR X (compareOp .Eq) (rD (kp X) fr fun x y => (cmD .eq x y).map .bl) := by
  intro pins s σ H x y v u Q I rx ry ⟨F, Rf, ad, w, d, e, z, sr, r1, r2, ef, q⟩
  obtain ⟨b, eh, rfl⟩ := mapbl ef
  obtain ⟨rfl, ⟨p1, p2, dz⟩ | ⟨xs, ys, rfl, rfl, hk'⟩⟩ := eqD_of eh
  · obtain ⟨as, q1⟩ := Dp.reads I d.toPy x v (dp_of sr.fx d x p1 r1) rx
    obtain ⟨bs, q2⟩ := Dp.reads I e.toPy y u (dp_of sr.fx e y p2 r2) ry
    refine PySem.SeqAt.rcAt_plain q1 q2 (plain_toPy d p1) (plain_toPy e p2) (by rw [depth_toPy, depth_toPy]; omega) X.prog X.w _ _ ⟨.bl _, H, I, rfl, ?_⟩
    rw [eqv_toPy d e p1 p2]
    exact q.here sr flat_bl (.bl _)
  · obtain ⟨a, vs, rfl, h1, k1⟩ := r1.lst_inv
    obtain ⟨b, ws, rfl, h2, k2⟩ := r2.lst_inv
    cases rx; cases ry
    obtain ⟨_, its, n, r, l1, e1⟩ := I.lstM (sr.fx _ _ h1)
    obtain ⟨_, its', n', r', l2, e2⟩ := I.lstM (sr.fx _ _ h2)
    refine PySem.SeqAt.eq_list_lengthsAt (E := X.xe) ⟨_, e1, rfl, _, rfl⟩ ⟨_, e2, rfl, _, rfl⟩ (by simp only [List.size_toArray, bne_iff_ne]; rw [← l1, ← l2, k1.1, k2.1]; exact hk') (by omega) ⟨.bl false, H, I, rfl, ?_⟩
    exact rD_bl q sr (eqvs_len xs ys hk')
theorem c_ne (hu : X.A.units + 64 < cLine) : OpR X (compareOp .NotEq) (rD (kp X) fr fun x y => (cmD .ne x y).map .bl) := by
  intro pins s σ H x y v u Q I rx ry ⟨F, Rf, ad, w, d, e, z, sr, r1, r2, ef, q⟩
  obtain ⟨b0, eg, rfl⟩ := mapbl ef
  obtain ⟨b, eh, rfl⟩ := mapnot eg
  obtain ⟨rfl, ⟨p1, p2, dz⟩ | ⟨xs, ys, rfl, rfl, hk'⟩⟩ := eqD_of eh
  · obtain ⟨as, q1⟩ := Dp.reads I d.toPy x v (dp_of sr.fx d x p1 r1) rx
    obtain ⟨bs, q2⟩ := Dp.reads I e.toPy y u (dp_of sr.fx e y p2 r2) ry
    refine PySem.SeqAt.rcNe_plain q1 q2 (plain_toPy d p1) (plain_toPy e p2) (by rw [depth_toPy, depth_toPy]; omega) X.prog X.w _ _ ⟨.bl _, H, I, rfl, ?_⟩
    rw [eqv_toPy d e p1 p2]
    exact q.here sr flat_bl (.bl _)
  · obtain ⟨a, vs, rfl, h1, k1⟩ := r1.lst_inv
    obtain ⟨b, ws, rfl, h2, k2⟩ := r2.lst_inv
    cases rx; cases ry
    obtain ⟨_, its, n, r, l1, e1⟩ := I.lstM (sr.fx _ _ h1)
    obtain ⟨_, its', n', r', l2, e2⟩ := I.lstM (sr.fx _ _ h2)
    refine PySem.SeqAt.RcNeAt.lists_lengths ⟨_, e1, rfl, _, rfl⟩ ⟨_, e2, rfl, _, rfl⟩ (by simp only [List.size_toArray, bne_iff_ne]; rw [← l1, ← l2, k1.1, k2.1]; exact hk') (by omega) X.prog X.w _ _ ⟨.bl true, H, I, rfl, ?_⟩
    refine rD_bl q sr ?_
    show (!D.eqvs xs ys) = true
    rw [eqvs_len xs ys hk']; rfl
theorem ordD_of {p : Int → Int → Bool} {d e : D} {b : Bool} (h : ordD p d e = some b) : ∃ i j, d = .int i ∧ e = .int j ∧ b = p i j := by
  unfold ordD at h
  split at h
  · exact ⟨_, _, rfl, rfl, (Option.some.inj h).symm⟩
  · cases h
theorem c_lt : OpR X (compareOp .Lt) (rD (kp X) fr fun x y => (cmD .lt x y).map .bl) := by
  intro pins s σ H x y v u Q I rx ry ⟨F, Rf, ad, w, d, e, z, sr, r1, r2, ef, q⟩
  obtain ⟨b, eh, rfl⟩ := mapbl ef
  obtain ⟨i, j, rfl, rfl, rfl⟩ := ordD_of eh
  cases r1; cases r2
  exact op_lt pins s σ H _ _ v u Q I rx ry ⟨_, _, rfl, rfl, q.here sr flat_bl (.bl _)⟩
theorem c_le : OpR X (compareOp .LtE) (rD (kp X) fr fun x y => (cmD .le x y).map .bl) := by
  intro pins s σ H x y v u Q I rx ry ⟨F, Rf, ad, w, d, e, z, sr, r1, r2, ef, q⟩
  obtain ⟨b, eh, rfl⟩ := mapbl ef
  obtain ⟨i, j, rfl, rfl, rfl⟩ := ordD_of eh
  cases r1; cases r2
  exact op_le pins s σ H _ _ v u Q I rx ry ⟨_, _, rfl, rfl, q.here sr flat_bl (.bl _)⟩
theorem c_gt : OpR X (compareOp .Gt) (rD (kp X) fr fun x y => (cmD .gt x y).map .bl) := by
  intro pins s σ H x y v u Q I rx ry ⟨F, Rf, ad, w, d, e, z, sr, r1, r2, ef, q⟩
  obtain ⟨b, eh, rfl⟩ := mapbl ef
  obtain ⟨i, j, rfl, rfl, rfl⟩ := ordD_of eh
  cases r1; cases r2
  exact op_gt pins s σ H _ _ v u Q I rx ry ⟨_, _, rfl, rfl, q.here sr flat_bl (.bl _)⟩
theorem c_ge : OpR X (compareOp .GtE) (rD (kp X) fr fun x y => (cmD .ge x y).map .bl) := by
  intro pins s σ H x y v u Q I rx ry ⟨F, Rf, ad, w, d, e, z, sr, r1, r2, ef, q⟩
  obtain ⟨b, eh, rfl⟩ := mapbl ef
  obtain ⟨i, j, rfl, rfl, rfl⟩ := ordD_of eh
  cases r1; cases r2
  exact op_ge pins s σ H _ _ v u Q I rx ry ⟨_, _, rfl, rfl, q.here sr flat_bl (.bl _)⟩
/-- is None, is True, is False -/
theorem isD_of {K : KP} {F : Hp} {ad : Ads} {d e : D} {b : Bool} {x y : V} {v u : Value} (h : isD d e = some b) (r1 : Rp K F ad x d) (r2 : Rp K F ad y e) (rx : RelV x v) (ry : RelV y u) : plainIs v u = true ∧ (v == u) = b := by
  unfold isD at h
  split at h
  · cases r2
    cases (show u = Value.none from ry)
    cases r1 with
    | non => cases (show v = Value.none from rx); cases h; exact ⟨rfl, rfl⟩
    | bl c => cases (show v = Value.bool c from rx); cases h; exact ⟨rfl, rfl⟩
    | int i => obtain ⟨t, rfl⟩ := rx; cases h; exact ⟨rfl, rfl⟩
    | str i => obtain ⟨t, rfl⟩ := rx; cases h; exact ⟨rfl, rfl⟩
    | _ => cases rx; cases h; exact ⟨rfl, rfl⟩
  · rename_i c
    cases r2
    cases (show u = Value.bool c from ry)
    cases r1 with
    | non => cases (show v = Value.none from rx); cases h; exact ⟨rfl, rfl⟩
    | bl c' => cases (show v = Value.bool c' from rx); cases h; exact ⟨rfl, by cases c' <;> cases c <;> rfl⟩
    | int i => obtain ⟨t, rfl⟩ := rx; cases h; exact ⟨rfl, rfl⟩
    | str i => obtain ⟨t, rfl⟩ := rx; cases h; exact ⟨rfl, rfl⟩
    | _ => cases rx; cases h; exact ⟨rfl, rfl⟩
  · cases h
theorem c_is : OpR X (compareOp .Is) (rD (kp X) fr fun x y => (cmD .is_ x y).map .bl) := by
  intro pins s σ H x y v u Q I rx ry ⟨F, Rf, ad, w, d, e, z, sr, r1, r2, ef, q⟩
  obtain ⟨b, eh, rfl⟩ := mapbl ef
  obtain ⟨h1, h2⟩ := isD_of eh r1 r2 rx ry
  refine wpAny_is_plain h1 ⟨.bl b, H, I, ?_, q.here sr flat_bl (.bl b)⟩
  rw [h2]; rfl
theorem c_isnt : OpR X (compareOp .IsNot) (rD (kp X) fr fun x y => (cmD .isnt x y).map .bl) := by
  intro pins s σ H x y v u Q I rx ry ⟨F, Rf, ad, w, d, e, z, sr, r1, r2, ef, q⟩
  obtain ⟨b0, eg, rfl⟩ := mapbl ef
  obtain ⟨b, eh, rfl⟩ := mapnot eg
  obtain ⟨h1, h2⟩ := isD_of eh r1 r2 rx ry
  refine wpAny_isNot_plain h1 ⟨.bl (!b), H, I, ?_, q.here sr flat_bl (.bl _)⟩
  rw [h2]; rfl
end
end LL
/-! == LL5 == -/
set_option Elab.async false
set_option linter.all false
set_option maxRecDepth 100000
set_option maxHeartbeats 2000000
/-! LL, part 5: in, subscripts, slices, built-ins -/
namespace LL
open PySem PySem.Spec PyProof.Rows L2

/-! ### written dicts -/
theorem kd_find : ∀ (es : List DictEntry) (ks : List Str) (z : Str), es.length = ks.length → (∀ (i : Nat) (e : DictEntry), es[i]? = some e → ∃ x t, e.key = .str x t ∧ ks[i]? = some x) →
    (es.find? (fun d => Value.isStrOf z d.key)).map (·.val) = ((ks.zip (es.map (·.val))).find? (fun p => decide (p.1 = z))).map (·.2)
  | [], [], z, _, _ => rfl
  | [], _ :: _, _, h, _ => by simp at h
  | _ :: _, [], _, h, _ => by simp at h
  | e :: es, k :: ks, z, hl, h => by
    obtain ⟨x, t, h1, h2⟩ := h 0 e rfl
    have h2 : k = x := Option.some.inj h2
    subst h2
    have ih := kd_find es ks z (by simpa using hl) fun i e' he => by
      obtain ⟨x, t, a, b⟩ := h (i + 1) e' (by simpa using he)
      exact ⟨x, t, a, by simpa using b⟩
    have q : Value.isStrOf z e.key = decide (k = z) := by
      rw [h1]
      by_cases c : k = z
      · subst c; simp [Value.isStrOf]
      · rw [decide_eq_false c]
        simp only [Value.isStrOf]
        simpa using fun h => c (by first | exact h | exact h.symm)
    rw [List.find?_cons, List.map_cons, List.zip_cons_cons, List.find?_cons, q]
    cases decide (k = z) with
    | true => rfl
    | false => exact ih
def lookU (k : Str) (ks : List Str) (us : List Value) : Option Value := ((ks.zip us).find? (fun p => decide (p.1 = k))).map (·.2)
theorem lookU_isSome : ∀ (ks : List Str) (us : List Value) (k : Str), us.length = ks.length → (lookU k ks us).isSome = decide (k ∈ ks)
  | [], [], k, _ => rfl
  | [], _ :: _, _, h => by simp at h
  | _ :: _, [], _, h => by simp at h
  | x :: ks, u :: us, k, h => by
    have ih := lookU_isSome ks us k (by simpa using h)
    unfold lookU at ih ⊢
    rw [List.zip_cons_cons, List.find?_cons]
    by_cases c : x = k
    · subst c; simp
    · simp only [decide_eq_false c]
      rw [ih]
      simp [c, eq_comm]
theorem lookD_some : ∀ {ks : List Str} {ds : List D} {k : Str} {d : D}, lookD k ks ds = some d → ∃ i : Nat, ks[i]? = some k ∧ ds[i]? = some d ∧ ∀ (j : Nat), j < i → ks[j]? ≠ some k
  | [], _, _, _, h => by simp [lookD] at h
  | _ :: _, [], _, _, h => by simp [lookD] at h
  | x :: ks, e :: ds, k, d, h => by
    unfold lookD at h
    split at h
    · rename_i c
      cases h
      exact ⟨0, by rw [c]; rfl, rfl, fun j hj => absurd hj (Nat.not_lt_zero _)⟩
    · rename_i c
      obtain ⟨i, h1, h2, h3⟩ := lookD_some h
      refine ⟨i + 1, by simpa using h1, by simpa using h2, fun j hj => ?_⟩
      cases j with
      | zero => exact fun q => c (Option.some.inj q)
      | succ j => simpa using h3 j (by omega)
theorem lookU_at : ∀ {ks : List Str} {us : List Value} {k : Str} {i : Nat} {u : Value}, ks[i]? = some k → us[i]? = some u → (∀ (j : Nat), j < i → ks[j]? ≠ some k) → lookU k ks us = some u
  | [], _, _, _, _, h, _, _ => by simp at h
  | _ :: _, [], _, _, _, _, h, _ => by simp at h
  | x :: ks, e :: us, k, 0, u, h1, h2, _ => by
    cases h1; cases h2
    unfold lookU
    simp
  | x :: ks, e :: us, k, i + 1, u, h1, h2, h3 => by
    have c : x ≠ k := fun q => h3 0 (Nat.succ_pos _) (by rw [q]; rfl)
    have ih := lookU_at (ks := ks) (us := us) (i := i) (by simpa using h1) (by simpa using h2) fun j hj => by simpa using h3 (j + 1) (by omega)
    unfold lookU at ih ⊢
    rw [List.zip_cons_cons, List.find?_cons]
    simp only [decide_eq_false c]
    exact ih
theorem kd_by {K : KP} {a : Addr} {ks : List Str} {us : List Value} (h : KDw K a ks us) : ∃ es n, K.1.lookup a = some ⟨.type "dict", none, .dict es n, #[]⟩ ∧ PySem.W.KeysLit K.2 es.toList ∧ us.length = ks.length ∧ ∀ z, findBy Value.isStrOf es z = lookU z ks us := by
  obtain ⟨⟨es, n, h1, h2, h3, h4, h5⟩, _⟩ := h
  refine ⟨es, n, h1, h2, by rw [← h3, List.length_map, h4], fun z => ?_⟩
  have q := kd_find es.toList ks z h4 h5
  rw [h3] at q
  unfold findBy lookU
  rw [← q]
  obtain ⟨l⟩ := es
  rw [List.find?_toArray]
section
variable {X : Cx} {fr : Bool}
theorem find_of_keys {kvs : List (Key × V)} {ks : List Str} (hk : kvs.map (·.1) = ks.map Sum.inr) (z : Str) : (valV kvs (Sum.inr z)).isSome = decide (z ∈ ks) := by
  rw [← valV_any]
  have e : (kvs.any fun kv => decide (kv.1 = Sum.inr z)) = (kvs.map (·.1)).any fun k => decide (k = Sum.inr z) := by rw [List.any_map]; rfl
  rw [e, hk, List.any_map]
  by_cases c : z ∈ ks
  · rw [decide_eq_true c]
    exact List.any_eq_true.mpr ⟨z, c, by simp⟩
  · rw [decide_eq_false c]
    refine Bool.eq_false_iff.mpr fun q => c ?_
    obtain ⟨y, hy, e⟩ := List.any_eq_true.mp q
    have e' : (Sum.inr y : Key) = Sum.inr z := by simpa using e
    cases e'
    exact hy
theorem valV_at : ∀ {kvs : List (Key × V)} {ks : List Str} {k : Str} {i : Nat} {p : Key × V}, kvs.map (·.1) = ks.map Sum.inr → ks[i]? = some k → kvs[i]? = some p → (∀ (j : Nat), j < i → ks[j]? ≠ some k) → valV kvs (Sum.inr k) = some p.2
  | [], _, _, _, _, _, _, h, _ => by simp at h
  | _ :: _, [], _, _, _, _, h, _, _ => by simp at h
  | q :: kvs, x :: ks, k, 0, p, hk, h1, h2, _ => by
    have e1 : x = k := Option.some.inj h1
    have e2 : q = p := Option.some.inj h2
    subst e1 e2
    have : q.1 = Sum.inr x := by simpa using (List.cons.inj hk).1
    exact valV_pos this
  | q :: kvs, x :: ks, k, i + 1, p, hk, h1, h2, h3 => by
    have hq : q.1 = Sum.inr x := by simpa using (List.cons.inj hk).1
    have c : x ≠ k := fun e => h3 0 (Nat.succ_pos _) (by rw [e]; rfl)
    rw [valV_neg (by rw [hq]; exact fun e => c (Sum.inr.inj e))]
    exact valV_at (by simpa using (List.cons.inj hk).2) (by simpa using h1) (by simpa using h2) fun j hj => by simpa using h3 (j + 1) (by omega)

theorem inL_of {x : D} {ys : List D} {b : Bool} (h : inL x ys = some b) : x.plain = true ∧ D.plains ys = true ∧ min (D.depths ys) x.depth ≤ 60 ∧ b = ys.any fun y => D.eqv y x := by
  unfold inL at h
  obtain ⟨hz, rfl⟩ := ofs h
  simp only [Bool.and_eq_true, decide_eq_true_eq] at hz
  exact ⟨hz.1.1, hz.1.2, hz.2, rfl⟩
theorem one_sign {x : Str} (h : x.cps.size = 1) : x = ⟨#[x.cps.getD 0 0]⟩ := by
  obtain ⟨⟨l⟩⟩ := x
  match l, h with
  | [c], _ => rfl
theorem inD_of {d e : D} {b : Bool} (h : inD d e = some b) : (∃ ys, e = .tup ys ∧ inL d ys = some b) ∨ (∃ ys, e = .lst ys ∧ inL d ys = some b) ∨
    (∃ x y : Str, d = .str x ∧ e = .str y ∧ x.cps.size = 1 ∧ b = decide (x.cps.getD 0 0 ∈ y.cps.toList)) ∨ ∃ x ks ds, d = .str x ∧ e = .dct ks ds ∧ b = decide (x ∈ ks) := by
  unfold inD at h
  split at h
  · exact .inl ⟨_, rfl, h⟩
  · exact .inr (.inl ⟨_, rfl, h⟩)
  · split at h
    · obtain ⟨hz, rfl⟩ := ofs h
      exact .inr (.inr (.inl ⟨_, _, rfl, rfl, hz, rfl⟩))
    · cases h
  · split at h
    · cases h
      exact .inr (.inr (.inr ⟨_, _, _, rfl, rfl, rfl⟩))
    · cases h
  · cases h
theorem c_in (hu : X.A.units + 64 < cLine) : OpR X (compareOp .In) (rD (kp X) fr fun x y => (cmD .in_ x y).map .bl) := by
  intro pins s σ H x y v u Q I rx ry ⟨F, Rf, ad, w, d, e, z, sr, r1, r2, ef, q⟩
  obtain ⟨b, eh, rfl⟩ := mapbl ef
  have eh : inD d e = some b := eh
  rcases inD_of eh with ⟨ys, rfl, e2⟩ | ⟨ys, rfl, e2⟩ | ⟨x', y', rfl, rfl, hz, rfl⟩ | ⟨z', ks, ds, rfl, rfl, rfl⟩
  · obtain ⟨p1, p2, dz, rfl⟩ := inL_of e2
    obtain ⟨as, q1⟩ := Dp.reads I d.toPy x v (dp_of sr.fx d x p1 r1) rx
    obtain ⟨bs, q2⟩ := Dp.reads I (D.tup ys).toPy y u (dp_of sr.fx (.tup ys) y (by simpa [D.plain] using p2) r2) ry
    refine PySem.SeqAt.in_tuple_data q2 q1 (plains_toPy ys p2) (plain_toPy d p1) (by rw [depths_toPy, depth_toPy]; omega) ⟨.bl _, H, I, rfl, ?_⟩
    rw [any_toPy d p1 ys p2]
    exact q.here sr flat_bl (.bl _)
  · obtain ⟨p1, p2, dz, rfl⟩ := inL_of e2
    obtain ⟨as, q1⟩ := Dp.reads I d.toPy x v (dp_of sr.fx d x p1 r1) rx
    obtain ⟨bs, q2⟩ := Dp.reads I (D.lst ys).toPy y u (dp_of sr.fx (.lst ys) y (by simpa [D.plain] using p2) r2) ry
    refine PySem.SeqAt.in_list_data q2 q1 (plains_toPy ys p2) (plain_toPy d p1) (by rw [depths_toPy, depth_toPy]; omega) ⟨.bl _, H, I, rfl, ?_⟩
    rw [any_toPy d p1 ys p2]
    exact q.here sr flat_bl (.bl _)
  · cases r1; cases r2
    exact op_in_sign pins s σ H _ _ v u Q I rx ry ⟨_, _, by rw [← one_sign hz], rfl, q.here sr flat_bl (.bl _)⟩
  · cases r1
    cases r2 with
    | dct h hk hl r =>
      cases (show u = Value.ref _ from ry)
      refine d_in (by omega) I (DGet.k (k := Sum.inr z') (sr.fx _ _ h)) rx fun s' I' => ⟨.bl _, H, I', rfl, ?_⟩
      rw [find_of_keys hk]
      exact q.here sr flat_bl (.bl _)
    | kd h hv hl r =>
      cases (show u = Value.ref _ from ry)
      obtain ⟨t, rfl⟩ := rx
      obtain ⟨es, n, k1, k2, k3, k4⟩ := kd_by h
      refine wpAny_in_of (PySem.strKind_is X.prog X.w z' t) h.low (PySem.W.mapOf_K (prog := X.prog) (w := X.w) I.kIn k1 k2) ?_
      rw [k4, lookU_isSome _ _ _ k3]
      exact ⟨.bl _, H, I.tok _, rfl, q.here sr flat_bl (.bl _)⟩
theorem c_nin (hu : X.A.units + 64 < cLine) : OpR X (compareOp .NotIn) (rD (kp X) fr fun x y => (cmD .nin x y).map .bl) := by
  intro pins s σ H x y v u Q I rx ry ⟨F, Rf, ad, w, d, e, z, sr, r1, r2, ef, q⟩
  obtain ⟨b0, eg, rfl⟩ := mapbl ef
  obtain ⟨b, eh, rfl⟩ := mapnot eg
  have eh : inD d e = some b := eh
  rcases inD_of eh with ⟨ys, rfl, e2⟩ | ⟨ys, rfl, e2⟩ | ⟨x', y', rfl, rfl, hz, rfl⟩ | ⟨z', ks, ds, rfl, rfl, rfl⟩
  · obtain ⟨p1, p2, dz, rfl⟩ := inL_of e2
    obtain ⟨as, q1⟩ := Dp.reads I d.toPy x v (dp_of sr.fx d x p1 r1) rx
    obtain ⟨bs, q2⟩ := Dp.reads I (D.tup ys).toPy y u (dp_of sr.fx (.tup ys) y (by simpa [D.plain] using p2) r2) ry
    refine PySem.SeqAt.notIn_tuple_data q2 q1 (plains_toPy ys p2) (plain_toPy d p1) (by rw [depths_toPy, depth_toPy]; omega) ⟨.bl _, H, I, rfl, ?_⟩
    rw [any_toPy d p1 ys p2]
    exact q.here sr flat_bl (.bl _)
  · obtain ⟨p1, p2, dz, rfl⟩ := inL_of e2
    obtain ⟨as, q1⟩ := Dp.reads I d.toPy x v (dp_of sr.fx d x p1 r1) rx
    obtain ⟨bs, q2⟩ := Dp.reads I (D.lst ys).toPy y u (dp_of sr.fx (.lst ys) y (by simpa [D.plain] using p2) r2) ry
    refine PySem.SeqAt.notIn_list_data q2 q1 (plains_toPy ys p2) (plain_toPy d p1) (by rw [depths_toPy, depth_toPy]; omega) ⟨.bl _, H, I, rfl, ?_⟩
    rw [any_toPy d p1 ys p2]
    exact q.here sr flat_bl (.bl _)
  · cases r1; cases r2
    exact op_notIn_sign pins s σ H _ _ v u Q I rx ry ⟨_, _, by rw [← one_sign hz], rfl, q.here sr flat_bl (.bl _)⟩
  · cases r1
    cases r2 with
    | dct h hk hl r =>
      cases (show u = Value.ref _ from ry)
      refine d_notIn (by omega) I (DGet.k (k := Sum.inr z') (sr.fx _ _ h)) rx fun s' I' => ⟨.bl _, H, I', rfl, ?_⟩
      rw [find_of_keys hk]
      exact q.here sr flat_bl (.bl _)
    | kd h hv hl r =>
      cases (show u = Value.ref _ from ry)
      obtain ⟨t, rfl⟩ := rx
      obtain ⟨es, n, k1, k2, k3, k4⟩ := kd_by h
      refine wpAny_notIn_of (PySem.strKind_is X.prog X.w z' t) h.low (PySem.W.mapOf_K (prog := X.prog) (w := X.w) I.kIn k1 k2) ?_
      rw [k4, lookU_isSome _ _ _ k3]
      exact ⟨.bl _, H, I.tok _, rfl, q.here sr flat_bl (.bl _)⟩
def cmOf : Cm → CmpOp
  | .eq => .Eq | .ne => .NotEq | .lt => .Lt | .le => .LtE | .gt => .Gt | .ge => .GtE | .is_ => .Is | .isnt => .IsNot | .in_ => .In | .nin => .NotIn
theorem c_op (hu : X.A.units + 64 < cLine) : ∀ o : Cm, OpR X (compareOp (cmOf o)) (rD (kp X) fr fun x y => (cmD o x y).map .bl)
  | .eq => c_eq hu
  | .ne => c_ne hu
  | .lt => c_lt
  | .le => c_le
  | .gt => c_gt
  | .ge => c_ge
  | .is_ => c_is
  | .isnt => c_isnt
  | .in_ => c_in hu
  | .nin => c_nin hu

/-! ### subscripts -/
theorem atI_map {α β : Type} {R : α → β → Prop} {xs : List α} {ys : List β} (hl : xs.length = ys.length) {i : Int} {y : β} (h : atI ys i = some y) : ∃ j, atI xs i = xs[j]? ∧ ys[j]? = some y ∧ j < ys.length := by
  unfold atI at h ⊢
  rw [hl]
  cases e : ixN ys.length i with
  | none => rw [e] at h; cases h
  | some j =>
    rw [e] at h
    have h : ys[j]? = some y := h
    exact ⟨j, rfl, h, (List.getElem?_eq_some_iff.mp h).1⟩
/-- an item of what is known is known: no new one -/
def NoFr (fr : Bool) : Prop := fr = false
theorem i_ix (hu : X.A.units + 64 < cLine) : IxR X (rD (kp X) false ixD) := by
  intro value slice pins s σ H x y v u Q I rx ry ⟨F, Rf, ad, w, d, e, z, sr, r1, r2, ef, q⟩ hs
  unfold ixD at ef
  split at ef
  · obtain ⟨a, vs, rfl, h1, k1⟩ := r1.tup_inv
    cases r2
    obtain ⟨j, e1, e2, e3⟩ := atI_map (R := fun _ _ => True) k1.1 ef
    obtain ⟨v', e4, r4⟩ := k1.get e2
    exact ix_tup value slice pins s σ H _ _ v u Q I rx ry ⟨a, vs, _, v', rfl, rfl, ex_t sr.fx h1, by rw [e1]; exact e4, q _ _ _ (Ex.refl F) sr r4⟩ hs
  · obtain ⟨a, vs, rfl, h1, k1⟩ := r1.lst_inv
    cases r2
    obtain ⟨j, e1, e2, e3⟩ := atI_map (R := fun _ _ => True) k1.1 ef
    obtain ⟨v', e4, r4⟩ := k1.get e2
    exact ix_list value slice pins s σ H _ _ v u Q I rx ry ⟨a, vs, _, v', rfl, rfl, .inl (.inl (sr.fx _ _ h1)), by rw [e1]; exact e4, q _ _ _ (Ex.refl F) sr r4⟩ hs
  · cases r1; cases r2
    split at ef
    · rename_i hz
      cases e1 : atI (Array.toList (Str.cps ‹Str›)) ‹Int› with
      | none => rw [e1] at ef; cases ef
      | some c =>
        rw [e1] at ef
        cases ef
        exact ix_str value slice pins s σ H _ _ v u Q I rx ry ⟨_, _, c, rfl, rfl, lt_size hz, e1, q _ _ _ (Ex.refl F) sr (.str _)⟩ hs
    · cases ef
  · rename_i ks ds k
    cases r2
    obtain ⟨i, e1, e2, e3⟩ := lookD_some ef
    cases r1 with
    | dct h hk hl r =>
      cases (show v = Value.ref _ from rx)
      rename_i a kvs
      have hi : i < kvs.length := by rw [hl]; exact (List.getElem?_eq_some_iff.mp e2).1
      have e4 : kvs[i]? = some kvs[i] := List.getElem?_eq_getElem hi
      have g : DGet H a (.str k) (some kvs[i].2) := by
        have := DGet.k (k := Sum.inr k) (sr.fx _ _ h)
        rw [valV_at hk e1 e4 e3] at this
        exact this
      refine tail_any (dict_typeIs I g) slot_dict_getitem.lookup (d_getItem (by omega) I g ry fun w' s' I' r' => ⟨_, H, I', r', ?_⟩) hs
      exact q _ _ _ (Ex.refl F) sr (r i _ _ e4 e2)
    | kd h hv hl r =>
      cases (show v = Value.ref _ from rx)
      obtain ⟨t, rfl⟩ := ry
      obtain ⟨es, n, k1, k2, k3, k4⟩ := kd_by h
      rename_i a us vs
      have hi : i < vs.length := by rw [hl]; exact (List.getElem?_eq_some_iff.mp e2).1
      obtain ⟨u', e5, r5⟩ := hv.get (List.getElem?_eq_getElem hi)
      have hm := PySem.W.mapOf_K (prog := X.prog) (w := X.w) I.kIn k1 k2
      exact tail_any hm.typeIs slot_dict_getitem.lookup (wpAny_getItem_of (strKind_is X.prog X.w k t) hm ((k4 k).trans (lookU_at e1 e5 e3)) ⟨_, H, I.tok _, r5, q _ _ _ (Ex.refl F) sr (r i _ _ (List.getElem?_eq_getElem hi) e2)⟩) hs
  · cases ef
end
end LL
/-! == LL6 == -/
set_option Elab.async false
set_option linter.all false
set_option maxRecDepth 100000
set_option maxHeartbeats 2000000
/-! LL, part 6: slices, built-ins, tests -/
namespace LL
open PySem PySem.Spec PyProof.Rows L2
theorem cutV_all (K : KP) {F : Hp} {ad : Ads} {vs : List V} {ds : List D} (h : RpAll K F ad vs ds) (lo hi : Option Int) : RpAll K F ad (cutV vs lo hi) (cutD ds lo hi) := by
  unfold cutV cutD
  rw [h.1]
  exact (h.drop _).take _
theorem cut_whole {ds : List D} {lo hi : Option Int} (h : HT.sIx ds.length 0 lo = 0 ∧ HT.sIx ds.length ds.length hi = ds.length) : cutD ds lo hi = ds := by
  unfold cutD
  rw [h.1, h.2]
  simp
section
variable {X : Cx} {fr : Bool}
/-- by values: the value, the ends -/
def rDsl (K : KP) (fr : Bool) : V → Option Int → Option Int → Hp → VK → Prop := fun x lo hi H Q => ∃ F Rf ad w d z, SR F Rf ad w H ∧ Rp K F ad x d ∧ slD d lo hi = some z ∧ EndE K Rf fr F ad w z Q
theorem i_sl : SlR X (rDsl (kp X) fr) := by
  intro pins s σ H x v vl vu lo hi sl Q I rx hs pl pu ⟨F, Rf, ad, w, d, z, sr, r1, ef, q⟩
  unfold slD at ef
  split at ef
  · rename_i ds
    cases ef
    obtain ⟨a, vs, rfl, h1, k1⟩ := r1.tup_inv
    refine sl_tupA pins s σ H _ v vl vu lo hi sl Q I rx hs pl pu ⟨a, vs, rfl, ex_t sr.fx h1, fun hw => ?_, fun _ => q.newTup sr (cutV_all _ k1 lo hi)⟩
    rw [k1.1] at hw
    rw [cut_whole hw] at q
    exact q.here sr (fun _ h => nomatch h) r1
  · cases ef
    obtain ⟨a, vs, rfl, h1, k1⟩ := r1.lst_inv
    exact sl_list pins s σ H _ v vl vu lo hi sl Q I rx hs pl pu ⟨a, vs, rfl, .inl (.inl (sr.fx _ _ h1)), q.newLst sr (cutV_all _ k1 lo hi)⟩
  · obtain ⟨hz, rfl⟩ := ofs ef
    cases r1
    exact sl_str pins s σ H _ v vl vu lo hi sl Q I rx hs pl pu ⟨_, rfl, lt_size hz, q.here sr (fun _ h => nomatch h) (.str _)⟩
  · cases ef
    cases r1
    rename_i h1
    exact sl_list pins s σ H _ v vl vu lo hi sl Q I rx hs pl pu ⟨_, _, rfl, ex_l sr.fx h1, q.newLst sr (cutV_all _ (.ints _) lo hi)⟩
  · cases ef
end

/-! ### built-ins -/
theorem toInts_of : ∀ {ds : List D} {ns : List Int}, D.toInts ds = some ns → ds = ns.map D.int
  | [], ns, h => by cases h; rfl
  | .int i :: r, ns, h => by
    unfold D.toInts at h
    cases e : D.toInts r with
    | none => rw [e] at h; cases h
    | some ms => rw [e] at h; cases h; rw [toInts_of e]; rfl
  | .non :: _, _, h => by simp [D.toInts] at h
  | .bl _ :: _, _, h => by simp [D.toInts] at h
  | .str _ :: _, _, h => by simp [D.toInts] at h
  | .tup _ :: _, _, h => by simp [D.toInts] at h
  | .lst _ :: _, _, h => by simp [D.toInts] at h
  | .dct _ _ :: _, _, h => by simp [D.toInts] at h
  | .ob _ :: _, _, h => by simp [D.toInts] at h
  | .scr _ :: _, _, h => by simp [D.toInts] at h
theorem toBls_of : ∀ {ds : List D} {ns : List Bool}, D.toBls ds = some ns → ds = ns.map D.bl
  | [], ns, h => by cases h; rfl
  | .bl i :: r, ns, h => by
    unfold D.toBls at h
    cases e : D.toBls r with
    | none => rw [e] at h; cases h
    | some ms => rw [e] at h; cases h; rw [toBls_of e]; rfl
  | .non :: _, _, h => by simp [D.toBls] at h
  | .int _ :: _, _, h => by simp [D.toBls] at h
  | .str _ :: _, _, h => by simp [D.toBls] at h
  | .tup _ :: _, _, h => by simp [D.toBls] at h
  | .lst _ :: _, _, h => by simp [D.toBls] at h
  | .dct _ _ :: _, _, h => by simp [D.toBls] at h
  | .ob _ :: _, _, h => by simp [D.toBls] at h
  | .scr _ :: _, _, h => by simp [D.toBls] at h
section
variable {K : KP} {F : Hp} {ad : Ads} {vs : List V}
theorem rp_ints {ns : List Int} (h : RpAll K F ad vs (ns.map D.int)) : vs = ns.map V.int := by
  refine List.ext_getElem? fun i => ?_
  rw [List.getElem?_map]
  cases e : ns[i]? with
  | none =>
    rw [List.getElem?_eq_none_iff] at e
    rw [List.getElem?_eq_none_iff.mpr (by rw [h.1]; simpa using e)]; rfl
  | some n =>
    obtain ⟨v, h1, h2⟩ := h.get (i := i) (d := .int n) (by rw [List.getElem?_map, e]; rfl)
    rw [h1, h2.int_inv]; rfl
theorem rp_bls {ns : List Bool} (h : RpAll K F ad vs (ns.map D.bl)) : vs = ns.map V.bl := by
  refine List.ext_getElem? fun i => ?_
  rw [List.getElem?_map]
  cases e : ns[i]? with
  | none =>
    rw [List.getElem?_eq_none_iff] at e
    rw [List.getElem?_eq_none_iff.mpr (by rw [h.1]; simpa using e)]; rfl
  | some n =>
    obtain ⟨v, h1, h2⟩ := h.get (i := i) (d := .bl n) (by rw [List.getElem?_map, e]; rfl)
    rw [h1, h2.bl_inv]; rfl
theorem RpAll.one {d : D} (h : RpAll K F ad vs [d]) : ∃ v, vs = [v] ∧ Rp K F ad v d := by
  match vs, h with
  | [v], h => exact ⟨v, rfl, h.2 0 v d rfl rfl⟩
  | [], h => exact absurd h.1 (by simp)
  | _ :: _ :: _, h => exact absurd h.1 (by simp)
theorem RpAll.two {d e : D} (h : RpAll K F ad vs [d, e]) : ∃ v u, vs = [v, u] ∧ Rp K F ad v d ∧ Rp K F ad u e := by
  match vs, h with
  | [v, u], h => exact ⟨v, u, rfl, h.2 0 v d rfl rfl, h.2 1 u e rfl rfl⟩
  | [], h => exact absurd h.1 (by simp)
  | [_], h => exact absurd h.1 (by simp)
  | _ :: _ :: _ :: _, h => exact absurd h.1 (by simp)
end
def tyS : Ty → String
  | .int => "int" | .bool => "bool" | .str => "str" | .list => "list" | .tuple => "tuple"
def dTy : D → String
  | .non => "NoneType" | .bl _ => "bool" | .int _ => "int" | .str _ => "str" | .tup _ => "tuple" | .lst _ => "list" | _ => ""
theorem isTy_kit {d : D} {t : Ty} {b : Bool} (h : isTy d t = some b) : kitB (dTy d) (tyS t) = some b := by
  cases d <;> cases t <;> first | (cases h; dsimp only [dTy, tyS]; decide +kernel) | (cases h)
theorem tyX_of {X : Cx} {F H : Hp} {ad : Ads} {v : V} {d : D} {t : Ty} {b : Bool} (h : isTy d t = some b) (e : Ex F H) (r : Rp (kp X) F ad v d) : TyX X.K H v (.type (dTy d)) := by
  cases r with
  | non => exact .base .non
  | bl b => exact .base (.bl b)
  | int i => exact .base (.int i)
  | str s => exact .base (.str s)
  | tup k hl r =>
    rcases k with (k | ⟨o, k⟩) | ⟨o, its, n, k, c, _⟩
    · exact .base (.tup (e _ _ k))
    · exact .fTuple (e _ _ k)
    · exact .kTuple k c
  | lst k hl r => exact .base (.lst (e _ _ k))
  | _ => cases t <;> cases h
theorem isTys_kit {d : D} {K : PySem.W.Frag} : ∀ {ts : List Ty} {b : Bool}, isTys d ts = some b → PySem.W.kitAny K (.type (dTy d)) (ts.map fun t => Value.type (tyS t)) = some b
  | [], b, h => by cases h; exact kitAny_nil
  | t :: ts, b, h => by
    unfold isTys at h
    cases e : isTy d t with
    | none => rw [e] at h; cases h
    | some c =>
      rw [e] at h
      have h : (if c = true then some true else isTys d ts) = some b := h
      refine kitAny_cons (b := c) (kit_ty (isTy_kit e)) (fun q => ?_) fun q => ?_
      · rw [q] at h
        exact isTys_kit h
      · rw [q] at h
        cases h; rfl
/-- the class of a built-in: a function or a type -/
def biV : Bi → Value
  | .len => .builtin "len" | .abs => .builtin "abs" | .int => .type "int" | .str => .type "str" | .sum => .builtin "sum" | .all => .builtin "all" | .any => .builtin "any" | .min => .builtin "min" | .max => .builtin "max"
  | .tuple => .type "tuple" | .list => .type "list" | .isi _ => .builtin "isinstance"
theorem b2i_if (b : Bool) : (if b then (1 : Int) else 0) = b2i b := rfl
section
variable {X : Cx} {fr : Bool}
theorem ofm {α β : Type} {o : Option α} {f : α → β} {z : β} (h : o.map f = some z) : ∃ a, o = some a ∧ f a = z := Option.map_eq_some_iff.mp h
/-- all but isinstance -/
theorem b_op (hc : X.calm = true) (b : Bi) (hb : ∀ ts, b ≠ .isi ts) : CallR X (biV b) (rDs (kp X) fr (biD b)) := by
  intro pins s σ H xs us Q I rx ⟨F, Rf, ad, w, ds, z, sr, r, ef, q⟩
  unfold biD at ef
  split at ef
  · cases ef
    obtain ⟨v, rfl, r1⟩ := r.one
    obtain ⟨a, vs, rfl, h1, k1⟩ := r1.tup_inv
    exact call_len pins s σ H _ us Q I rx ⟨_, _, rfl, .inr ⟨vs, ex_t sr.fx h1, rfl⟩, by rw [k1.1]; exact q.here sr (fun _ h => nomatch h) (.int _)⟩
  · cases ef
    obtain ⟨v, rfl, r1⟩ := r.one
    obtain ⟨a, vs, rfl, h1, k1⟩ := r1.lst_inv
    exact call_len pins s σ H _ us Q I rx ⟨_, _, rfl, .inl ⟨vs, .inl (.inl (sr.fx _ _ h1)), rfl⟩, by rw [k1.1]; exact q.here sr (fun _ h => nomatch h) (.int _)⟩
  · obtain ⟨hz, rfl⟩ := ofs ef
    obtain ⟨v, rfl, r1⟩ := r.one
    cases r1
    exact call_len pins s σ H _ us Q I rx ⟨_, _, rfl, ⟨lt_size hz, rfl⟩, q.here sr (fun _ h => nomatch h) (.int _)⟩
  · cases ef
    obtain ⟨v, rfl, r1⟩ := r.one
    cases r1
    exact call_abs pins s σ H _ us Q I rx ⟨_, rfl, q.here sr (fun _ h => nomatch h) (.int _)⟩
  · cases ef
    obtain ⟨v, rfl, r1⟩ := r.one
    cases r1
    exact call_int1 pins s σ H _ us Q I rx (.inl ⟨_, rfl, q.here sr (fun _ h => nomatch h) (.int _)⟩)
  · cases ef
    obtain ⟨v, rfl, r1⟩ := r.one
    cases r1
    exact call_int1 pins s σ H _ us Q I rx (.inr ⟨_, rfl, q.here sr (fun _ h => nomatch h) (.int _)⟩)
  · obtain ⟨hz, rfl⟩ := ofs ef
    obtain ⟨v, rfl, r1⟩ := r.one
    cases r1
    exact call_str_int pins s σ H _ us Q I rx ⟨_, rfl, hz, q.here sr (fun _ h => nomatch h) (.str _)⟩
  · obtain ⟨ns, e1, rfl⟩ := ofm ef
    obtain ⟨v, rfl, r1⟩ := r.one
    obtain ⟨a, vs, rfl, h1, k1⟩ := r1.lst_inv
    rw [toInts_of e1] at k1
    rw [rp_ints k1] at h1
    exact cr_sum hc pins s σ H _ us Q I rx ⟨a, ns, rfl, .inl (.inl (sr.fx _ _ h1)), q.here sr (fun _ h => nomatch h) (.int _)⟩
  · obtain ⟨ns, e1, rfl⟩ := ofm ef
    obtain ⟨v, rfl, r1⟩ := r.one
    obtain ⟨a, vs, rfl, h1, k1⟩ := r1.lst_inv
    rw [toBls_of e1] at k1
    rw [rp_bls k1] at h1
    exact cr_all hc pins s σ H _ us Q I rx ⟨a, ns, rfl, .inl (.inl (sr.fx _ _ h1)), q.here sr (fun _ h => nomatch h) (.bl _)⟩
  · obtain ⟨ns, e1, rfl⟩ := ofm ef
    obtain ⟨v, rfl, r1⟩ := r.one
    obtain ⟨a, vs, rfl, h1, k1⟩ := r1.lst_inv
    rw [toBls_of e1] at k1
    rw [rp_bls k1] at h1
    exact cr_any hc pins s σ H _ us Q I rx ⟨a, ns, rfl, .inl (.inl (sr.fx _ _ h1)), q.here sr (fun _ h => nomatch h) (.bl _)⟩
  · cases ef
    obtain ⟨v, u, rfl, r1, r2⟩ := r.two
    cases r1; cases r2
    exact call_min2 hc pins s σ H _ us Q I rx ⟨_, _, rfl, q.here sr (fun _ h => nomatch h) (.int _)⟩
  · cases ef
    obtain ⟨v, u, rfl, r1, r2⟩ := r.two
    cases r1; cases r2
    exact call_max2 hc pins s σ H _ us Q I rx ⟨_, _, rfl, q.here sr (fun _ h => nomatch h) (.int _)⟩
  · cases ef
    obtain ⟨v, rfl, r1⟩ := r.one
    obtain ⟨a, vs, rfl, h1, k1⟩ := r1.tup_inv
    exact call_tuple_of pins s σ H _ us Q I rx ⟨a, vs, rfl, .inr ⟨ex_t sr.fx h1, q.here sr (fun _ h => nomatch h) r1⟩⟩
  · cases ef
    obtain ⟨v, rfl, r1⟩ := r.one
    obtain ⟨a, vs, rfl, h1, k1⟩ := r1.lst_inv
    exact call_tuple_of pins s σ H _ us Q I rx ⟨a, vs, rfl, .inl ⟨.inl (.inl (sr.fx _ _ h1)), q.newTup sr k1⟩⟩
  · cases ef
    obtain ⟨v, rfl, r1⟩ := r.one
    obtain ⟨a, vs, rfl, h1, k1⟩ := r1.tup_inv
    exact call_list_of pins s σ H _ us Q I rx ⟨a, vs, rfl, .inr (ex_t sr.fx h1), q.newLst sr k1⟩
  · cases ef
    obtain ⟨v, rfl, r1⟩ := r.one
    obtain ⟨a, vs, rfl, h1, k1⟩ := r1.lst_inv
    exact call_list_of pins s σ H _ us Q I rx ⟨a, vs, rfl, .inl (.inl (.inl (sr.fx _ _ h1))), q.newLst sr k1⟩
  · exact absurd rfl (hb _)
  · cases ef
end
end LL
/-! == LL7 == -/
set_option Elab.async false
set_option linter.all false
set_option maxRecDepth 100000
set_option maxHeartbeats 2000000
/-! LL, part 7: what is walked -/
namespace LL
open PySem PySem.Spec PyProof.Rows L2

/-- a source of a walk, by values -/
inductive Sk where
  | lst (a : Addr) (xs : List V)
  | tup (a : Addr) (xs : List V)
  | str (z : Str)
def Sk.v : Sk → V
  | .lst a _ => .ref a
  | .tup a _ => .ref a
  | .str z => .str z
def Sk.Ok (K : PySem.W.Frag) (H : Hp) : Sk → Prop
  | .lst a xs => SqL K H a xs
  | .tup a xs => SqT K H a xs
  | .str _ => True
def Sk.items : Sk → List V
  | .lst _ xs => xs
  | .tup _ xs => xs
  | .str z => z.cps.toList.map fun c => .str ⟨#[c]⟩
def Sk.fp : Sk → List Addr
  | .lst a _ => [a]
  | .tup a _ => [a]
  | .str _ => []
def Sk.it (h : Heap) (it : Addr) (i : Nat) : Sk → Prop
  | .lst a _ => h.IsListIter it a i
  | .tup a _ => h.IsTupleIter it a i
  | .str z => ∃ t, h.IsStrIter it (strIterType z) z t i
theorem Sk.it_obj {h : Heap} {it : Addr} {i : Nat} {k : Sk} (x : k.it h it i) : ∃ o, h.get? it = some o ∧ ∀ v, o.data ≠ .cell v := by
  cases k with
  | lst a xs => obtain ⟨o, e, _, d⟩ := x; exact ⟨o, e, fun v q => by rw [d] at q; cases q⟩
  | tup a xs => obtain ⟨o, e, _, d⟩ := x; exact ⟨o, e, fun v q => by rw [d] at q; cases q⟩
  | str z => obtain ⟨t, o, e, _, d⟩ := x; exact ⟨o, e, fun v q => by rw [d] at q; cases q⟩
theorem Sk.it_at {h h' : Heap} {it : Addr} {i : Nat} {k : Sk} (x : k.it h it i) (e : ∀ o, h.get? it = some o → h'.get? it = some o) : k.it h' it i := by
  cases k with
  | lst a xs => exact Heap.IsListIter.at x e
  | tup a xs => exact Heap.IsTupleIter.at x e
  | str z => obtain ⟨t, o, ho, r⟩ := x; exact ⟨t, o, e o ho, r⟩
section
variable {X : Cx} {pins : List (Addr × Obj)} {σ : L2.St} {H : Hp} {s : Shared}
theorem Sk.draws {k : Sk} {it : Addr} {i : Nat} {A : Around} (hh : A.handled = none) (I : Inv X pins σ H s) (ok : k.Ok X.K H) (st : k.it s.heap it i) (hne : it ∉ k.fp) :
    ∃ (n : Nat) (P : Nat → Value → Prop) (St : Nat → Heap → Prop), Draws X.prog X.w A it (it :: k.fp) n P St ∧ St i s.heap ∧ n = k.items.length ∧ (∀ i x, P i x → ∃ v, k.items[i]? = some v ∧ RelV v x) ∧ ∀ i h', St i h' → k.it h' it i := by
  cases k with
  | lst a xs =>
    obtain ⟨its, r, p, _⟩ := I.list ok
    have hne' : a ≠ it := fun e => hne (by rw [e]; exact List.mem_singleton.mpr rfl)
    refine ⟨_, _, _, Draws.list hh it a hne' its.toArray, ⟨st, p.isList⟩, by rw [List.size_toArray]; exact r.length.symm, fun j x e => ?_, fun j h' q => q.1⟩
    have e : its[j]? = some x := by simpa using e
    obtain ⟨v, h1, h2⟩ : ∃ v, xs[j]? = some v ∧ RelV v x := by
      have hj : j < xs.length := by rw [r.length]; exact (List.getElem?_eq_some_iff.mp e).1
      obtain ⟨u, hu, ru⟩ := r.get (List.getElem?_eq_getElem hj)
      rw [e] at hu; cases hu
      exact ⟨_, List.getElem?_eq_getElem hj, ru⟩
    exact ⟨v, h1, h2⟩
  | tup a xs =>
    obtain ⟨its, r, p, _⟩ := I.tuple ok
    have hne' : a ≠ it := fun e => hne (by rw [e]; exact List.mem_singleton.mpr rfl)
    refine ⟨_, _, _, Draws.tuple hh it a hne' its.toArray, ⟨st, p⟩, by rw [List.size_toArray]; exact r.length.symm, fun j x e => ?_, fun j h' q => q.1⟩
    have e : its[j]? = some x := by simpa using e
    have hj : j < xs.length := by rw [r.length]; exact (List.getElem?_eq_some_iff.mp e).1
    obtain ⟨u, hu, ru⟩ := r.get (List.getElem?_eq_getElem hj)
    rw [e] at hu; cases hu
    exact ⟨_, List.getElem?_eq_getElem hj, ru⟩
  | str z =>
    obtain ⟨t, st⟩ := st
    refine ⟨_, _, _, Draws.text hh it z t, st, by simp [Sk.items], fun j x e => ?_, fun j h' q => ⟨t, q⟩⟩
    obtain ⟨c, u, h1, rfl⟩ := e
    exact ⟨.str ⟨#[c]⟩, by show (z.cps.toList.map _)[j]? = _; rw [List.getElem?_map]; simp [h1], ⟨u, rfl⟩⟩
theorem Sk.begins {k : Sk} {v : Value} (I : Inv X pins σ H s) (ok : k.Ok X.K H) (r : RelV k.v v) :
    ∃ (o : Obj) (H0 : Heap → Prop), Begins v o H0 ∧ H0 s.heap ∧ (∀ h it, h.get? it = some o → k.it h it 0) ∧ ∀ b ∈ k.fp, b < s.heap.objs.size := by
  cases k with
  | lst a xs =>
    cases (show v = Value.ref a from r)
    obtain ⟨its, _, p, _⟩ := I.list ok
    exact ⟨_, _, begins_list a its.toArray, p.isList, fun h it e => ⟨_, e, rfl, rfl⟩, fun b hb => by rw [List.mem_singleton.mp hb]; exact p.lt⟩
  | tup a xs =>
    cases (show v = Value.ref a from r)
    obtain ⟨its, _, p, _⟩ := I.tuple ok
    obtain ⟨o, ho, _⟩ := id p
    exact ⟨_, _, begins_tuple a its.toArray, p, fun h it e => ⟨_, e, rfl, rfl⟩, fun b hb => by rw [List.mem_singleton.mp hb]; exact Heap.lt_size ho⟩
  | str z =>
    obtain ⟨t, rfl⟩ := (show ∃ t, v = Value.str z t from r)
    exact ⟨_, _, begins_text z t, trivial, fun h it e => ⟨t, _, e, rfl, rfl⟩, fun b hb => by simp [Sk.fp] at hb⟩
end

/-! ### zip of any two -/
def ItZ (K : PySem.W.Frag) (k1 k2 : Sk) : It :=
  ⟨fun i H => k1.Ok K H ∧ k2.Ok K H ∧ i < k1.items.length ∧ i < k2.items.length,
    fun i H v H' => ∃ T x y, v = .ref T ∧ H T = none ∧ H' = upd H T (.tup [x, y]) ∧ k1.items[i]? = some x ∧ k2.items[i]? = some y,
    fun i H => k1.Ok K H ∧ k2.Ok K H ∧ i ≤ k1.items.length ∧ i ≤ k2.items.length ∧ (i = k1.items.length ∨ i = k2.items.length)⟩
theorem turn_zipG {P : Program} {w : World} {K : PySem.W.Frag} {elts : List Expr} {kk : Nat} {tpos : Pos} {k1 k2 : Sk} {z TI TO i1 i2 : Addr} (S : ZipSep2 z TI TO i1 i2 (i1 :: k1.fp) (i2 :: k2.fp)) (n1 : i1 ∉ k1.fp) (n2 : i2 ∉ k2.fp) :
    Turn P w K (.Tuple elts kk tpos) (ItZ K k1 k2) [z, TI, TO, i1, i2] z (fun i h => IsZip h z TI TO .none ∧ IsTupOf2 h TI (.ref i1) (.ref i2) ∧ (∃ x y, IsTupOf2 h TO x y) ∧ k1.it h i1 i ∧ k2.it h i2 i) where
  mem := by simp
  obj := fun i h st c hc => by
    obtain ⟨hz, hTI, ⟨x, y, hTO⟩, h1, h2⟩ := st
    have e' : c = z ∨ c = TI ∨ c = TO ∨ c = i1 ∨ c = i2 := by simpa using hc
    rcases e' with q | q | q | q | q
    · rw [q]; exact ⟨_, hz, fun v q => nomatch q⟩
    · rw [q]; exact ⟨_, hTI, fun v q => nomatch q⟩
    · rw [q]; exact ⟨_, hTO, fun v q => nomatch q⟩
    · rw [q]; exact Sk.it_obj h1
    · rw [q]; exact Sk.it_obj h2
  keep := fun i h h' st k => by
    obtain ⟨hz, hTI, ⟨x, y, hTO⟩, h1, h2⟩ := st
    exact ⟨k z (by simp) _ hz, k TI (by simp) _ hTI, ⟨x, y, k TO (by simp) _ hTO⟩, Sk.it_at h1 fun o q => k i1 (by simp) o q, Sk.it_at h2 fun o q => k i2 (by simp) o q⟩
  item := by
    intro X hP hw hK hc i pins s σ H E I hf st hg
    subst hP hw hK
    obtain ⟨hz, hTI, ⟨x0, y0, hTO⟩, h1, h2⟩ := st
    obtain ⟨o1, o2, l1, l2⟩ := hg
    have hh : X.A.in1.handled = none := I.ok.hd hc
    obtain ⟨m1, P1, St1, D1, s1, e1, p1, q1⟩ := Sk.draws hh I o1 h1 n1
    obtain ⟨m2, P2, St2, D2, s2, e2, p2, q2⟩ := Sk.draws hh I o2 h2 n2
    have hzl : z < s.heap.objs.size := Heap.lt_size hz
    refine wpAny_pyNext_zipD2_item S D1 D2 hz hTI hTO s1 s2 (by omega) (by omega) fun x1 x2 h' tk r1 r2 hz' hTO' s1' s2' hT hsz hk => ?_
    obtain ⟨v1, g1, w1⟩ := p1 i x1 r1
    obtain ⟨v2, g2, w2⟩ := p2 i x2 r2
    refine ⟨_, rfl, wpAny_letOwnedTupleGo_zip (s := { s with heap := h', toks := tk }) hz' fun h'' hz'' sb => ?_⟩
    have hT2 : h''.get? s.heap.objs.size = some { cls := .type "tuple", data := .seq #[x1, x2] } := (sb.2 _ (Nat.ne_of_gt hzl)).trans hT
    have new : ObjOk X.prog X.w (upd H s.heap.objs.size (.tup [v1, v2])) h'' s.heap.objs.size (.tup [v1, v2]) :=
      ⟨by show 2 ≤ sizeLine; decide, [x1, x2], .cons w1 (.cons w2 .nil), ⟨_, hT2, rfl, _, rfl⟩⟩
    have I1 : Inv X pins σ (upd H s.heap.objs.size (.tup [v1, v2])) { s with heap := h'', toks := tk } :=
      I.turnedNew (t' := tk) (ch := [z, TI, TO, i1, i2]) (fun c o hb q => (sb.2 c (fun q' => hb (by simp [q']))).trans (hk c o (fun q' => hb (by simp [q'])) (fun q' => hb (by simp [q'])) (fun q' => hb (by simp [q'])) (fun q' => hb (by simp [q'])) q)) hf (Nat.le_refl _) new
    refine ⟨.ref s.heap.objs.size, _, I1, rfl, ⟨_, v1, v2, rfl, I.hok.fresh (Nat.le_refl _), rfl, g1, g2⟩, ⟨hz'', ?_, ⟨x1, x2, ?_⟩, ?_, ?_⟩, fun c hcm => ?_⟩
    · exact (sb.2 _ S.TIz).trans (hk _ _ S.TIz S.TITO S.TIi1 S.TIi2 hTI)
    · exact (sb.2 _ S.TOz).trans hTO'
    · exact Sk.it_at (q1 _ _ s1') fun o q => (sb.2 _ S.zi1.symm).trans q
    · exact Sk.it_at (q2 _ _ s2') fun o q => (sb.2 _ S.zi2.symm).trans q
    · have hlt : c < s.heap.objs.size := by
        have e' : c = z ∨ c = TI ∨ c = TO ∨ c = i1 ∨ c = i2 := by simpa using hcm
        rcases e' with q | q | q | q | q
        · rw [q]; exact hzl
        · rw [q]; exact Heap.lt_size hTI
        · rw [q]; exact Heap.lt_size hTO
        · rw [q]; obtain ⟨_, e, _⟩ := Sk.it_obj h1; exact Heap.lt_size e
        · rw [q]; obtain ⟨_, e, _⟩ := Sk.it_obj h2; exact Heap.lt_size e
      rw [upd_ne (Nat.ne_of_lt hlt)]
      exact (hf c hcm).1
  done := by
    intro X hP hw hK hc i pins s σ H E I hf st hg
    subst hP hw hK
    obtain ⟨hz, hTI, ⟨x0, y0, hTO⟩, h1, h2⟩ := st
    obtain ⟨o1, o2, l1, l2, l3⟩ := hg
    have hh : X.A.in1.handled = none := I.ok.hd hc
    obtain ⟨m1, P1, St1, D1, s1, e1, p1, q1⟩ := Sk.draws hh I o1 h1 n1
    obtain ⟨m2, P2, St2, D2, s2, e2, p2, q2⟩ := Sk.draws hh I o2 h2 n2
    exact wpAny_pyNext_zipD2_end S D1 D2 hz hTI hTO s1 s2 (by omega) (by omega) (by omega) fun h' tk hk => ⟨rfl, I.turnedL (t' := tk) (ch := [z, TI, TO, i1, i2]) (fun c o hb q =>
      hk c o (fun q' => hb (by simp [q'])) (fun q' => hb (by simp [q'])) (fun q' => hb (by simp [q'])) (fun q' => hb (by simp [q'])) q) hf⟩
  self := fun A i s Q E st h => wpAny_pyIter_zip st.1 h
def iZipG (K : PySem.W.Frag) (ta : TA) : TI := fun σ H R => ta σ H fun vs H1 => ∃ k1 k2 : Sk, vs = [k1.v, k2.v] ∧ k1.Ok K H1 ∧ k2.Ok K H1 ∧ R (ItZ K k1 k2) H1
theorem pi_zipG {X : Cx} {e e2 : Expr} {ta : TA} {p pos tpos : Pos} {elts : List Expr} {kk : Nat} (hg : Gl X "zip") (hm : X.mg "zip" = none) (ha : PA X [e, e2] ta)
    (hs : starEach [e, e2] X.env = (false, eval e X.env) :: starEach [e2] X.env) (hpl : (backTo pos (starEach [e2] X.env)).any (·.1) = false) :
    PI X (.Tuple elts kk tpos) (.Call (.Name "zip" p) [e, e2] [] pos) (iZipG X.K ta) := by
  refine ⟨fun pins s σ H R I h => ?_⟩
  refine Call_ (ld_blt I hg hm PyProof.Rows.boot_zip (PyProof.Rows.callWith_type1 (thn (ha.run pos pins s σ H _ I h) fun us s1 ⟨vs, H1, I1, r1, q1⟩ => ?_) hs hpl))
  obtain ⟨k1, k2, ex, o1, o2, q⟩ := q1
  subst ex
  cases r1 with
  | cons r rr =>
    cases rr with
    | cons r' rr =>
      cases rr
      have fresh5 : ∀ c, c ∈ [s1.heap.objs.size + 4, s1.heap.objs.size + 2, s1.heap.objs.size + 3, s1.heap.objs.size, s1.heap.objs.size + 1] → FpOk X pins H1 c := fun c hcm => by
        have e' : c = s1.heap.objs.size + 4 ∨ c = s1.heap.objs.size + 2 ∨ c = s1.heap.objs.size + 3 ∨ c = s1.heap.objs.size ∨ c = s1.heap.objs.size + 1 := by simpa using hcm
        have hle : s1.heap.objs.size ≤ c := by
          rcases e' with z | z | z | z | z
          · rw [z]; exact Nat.le_add_right _ _
          · rw [z]; exact Nat.le_add_right _ _
          · rw [z]; exact Nat.le_add_right _ _
          · rw [z]; exact Nat.le_refl _
          · rw [z]; exact Nat.le_add_right _ _
        exact I1.fpOk hle (I1.hok.fresh hle)
      obtain ⟨ob1, H01, B1, b1, t1, f1⟩ := Sk.begins I1 o1 r
      obtain ⟨ob2, H02, B2, b2, t2, f2⟩ := Sk.begins I1 o2 r'
      refine zip_begins2 B1 B2 b1 b2 fun h' hz hTI hTO g1 g2 hsz hk => wpAny_pyIter_zip hz ?_
      have I2 : Inv X pins σ H1 { s1 with heap := h' } := I1.kept (t' := s1.toks) hk
      exact ⟨s1.heap.objs.size + 4, [s1.heap.objs.size + 4, s1.heap.objs.size + 2, s1.heap.objs.size + 3, s1.heap.objs.size, s1.heap.objs.size + 1], _, _, H1, rfl, I2,
        turn_zipG (zip_sep2 f1 f2) (fun hm => absurd (f1 _ hm) (Nat.lt_irrefl _)) (fun hm => absurd (f2 _ hm) (fun q => absurd (Nat.lt_of_succ_lt q) (Nat.lt_irrefl _))), ⟨hz, hTI, ⟨_, _, hTO⟩, t1 _ _ g1, t2 _ _ g2⟩, fresh5, q⟩

/-! ### one value -/
def iAny (K : PySem.W.Frag) (tl : TE) : TI := fun σ H R => tl σ H fun x H1 => (∃ a xs, x = .ref a ∧ SqL K H1 a xs ∧ R (Itl K a) H1) ∨ (∃ a xs, x = .ref a ∧ SqT K H1 a xs ∧ R (Itt K a) H1) ∨ ∃ z, x = .str z ∧ R (Its z) H1
theorem pi_any {X : Cx} {tg l : Expr} {tl : TE} (hl : PE X l tl) : PI X tg l (iAny X.K tl) := by
  refine ⟨fun pins s σ H R I h => ?_⟩
  refine thn (hl.run pins s σ H _ I h) fun v s1 ⟨x, H1, I1, r1, q1⟩ => ?_
  rcases q1 with ⟨a, xs, rfl, hq, q⟩ | ⟨a, xs, rfl, hq, q⟩ | ⟨z, rfl, q⟩
  · have h2 : PI X tg (.Name "x" ⟨0, 0, 0, 0⟩) (iList X.K (tC (.ref a))) ∨ True := .inr trivial
    cases r1
    obtain ⟨its, rv, p, hz⟩ := I1.list hq
    refine wpAny_pyIter_list p.isList ?_
    refine ⟨s1.heap.objs.size, [s1.heap.objs.size], _, _, H1, rfl, I1.kept (t' := s1.toks) fun b o e => Heap.get?_push_of_some _ e, turn_list a _, ⟨_, Heap.get?_push_size _ rfl, rfl, rfl⟩, fun b hb => ?_, q⟩
    have e : b = s1.heap.objs.size := by simpa using hb
    subst e
    exact I1.fpOk (Nat.le_refl _) (I1.hok.fresh (Nat.le_refl _))
  · cases r1
    obtain ⟨its, rv, p, hz⟩ := I1.tuple hq
    refine wpAny_pyIter_tuple (show s1.heap.IsTuple a its.toArray from p) ?_
    refine ⟨s1.heap.objs.size, [s1.heap.objs.size], _, _, H1, rfl, I1.kept (t' := s1.toks) fun b o e => Heap.get?_push_of_some _ e, turn_tuple a _, ⟨_, Heap.get?_push_size _ rfl, rfl, rfl⟩, fun b hb => ?_, q⟩
    have e : b = s1.heap.objs.size := by simpa using hb
    subst e
    exact I1.fpOk (Nat.le_refl _) (I1.hok.fresh (Nat.le_refl _))
  · obtain ⟨t, rfl⟩ := r1
    cases ha : z.cps.all (· < 128)
    · exact wpAny_pyIter_wide ha (pi_one (tk := s1.toks) I1 _ (turn_str _ z t "str_iterator" (.inr rfl)) ⟨_, Heap.get?_push_size _ rfl, rfl, rfl⟩ q)
    · exact wpAny_pyIter_ascii ha (pi_one (tk := s1.toks) I1 _ (turn_str _ z t "str_ascii_iterator" (.inl rfl)) ⟨_, Heap.get?_push_size _ rfl, rfl, rfl⟩ q)

/-! ### walks over data -/
/-- what a turn gives: the i-th of ds, known already, or in a new pair -/
def YD (K : KP) (F : Hp) (ad : Ads) (ds : List D) : Nat → Hp → V → Hp → Prop := fun i H x H' => ∃ d, ds[i]? = some d ∧ ((H' = H ∧ Rp K F ad x d) ∨
  ∃ (T : Addr) (a b : V) (da db : D), x = .ref T ∧ H T = none ∧ H' = upd H T (.tup [a, b]) ∧ d = .tup [da, db] ∧ Rp K F ad a da ∧ Rp K F ad b db)
abbrev WalkD (K : KP) (F : Hp) (ad : Ads) (J : It) (ds : List D) : Prop := Walk J ds.length (Ex F) (YD K F ad ds)
section
variable {K : KP} {F : Hp} {ad : Ads} {a : Addr} {vs : List V} {ds : List D}
theorem walkD_list (h : F a = some (.lst vs)) (r : RpAll K F ad vs ds) : WalkD K F ad (Itl K.1 a) ds := by
  have w : Walk (Itl K.1 a) vs.length (fun H => SqL K.1 H a vs) (YAt vs) := walk_list
  rw [r.1] at w
  exact w.mono (fun H e => .inl (.inl (e _ _ h))) fun i H x H' hi e ⟨e1, e2⟩ => by
    obtain ⟨d, h1, h2⟩ := r.get' e2
    exact ⟨d, h1, .inl ⟨e1, h2⟩⟩
theorem walkD_tup (h : SqT K.1 F a vs) (r : RpAll K F ad vs ds) : WalkD K F ad (Itt K.1 a) ds := by
  have w : Walk (Itt K.1 a) vs.length (fun H => SqT K.1 H a vs) (YAt vs) := walk_tup
  rw [r.1] at w
  exact w.mono (fun H e => ex_t e h) fun i H x H' hi e ⟨e1, e2⟩ => by
    obtain ⟨d, h1, h2⟩ := r.get' e2
    exact ⟨d, h1, .inl ⟨e1, h2⟩⟩
theorem walkD_str (z : Str) : WalkD K F ad (Its z) (z.cps.toList.map fun c => D.str ⟨#[c]⟩) := by
  have w : Walk (Its z) z.cps.size (fun _ => True) (fun i H v H' => H' = H ∧ ∃ c, z.cps[i]? = some c ∧ v = .str ⟨#[c]⟩) := walk_str
  have e : (z.cps.toList.map fun c => D.str ⟨#[c]⟩).length = z.cps.size := by simp
  show Walk _ _ _ _
  rw [e]
  exact w.mono (fun H _ => trivial) fun i H x H' hi _ ⟨e1, c, e2, e3⟩ => by
    subst e3
    exact ⟨.str ⟨#[c]⟩, by rw [List.getElem?_map]; simp [e2], .inl ⟨e1, .str _⟩⟩
theorem walkD_range (lo : Int) (n : Nat) : WalkD K F ad (Itr lo n) (rngD lo n) := by
  have w : Walk (Itr lo n) n (fun _ => True) (YFn fun i => .int (lo + i)) := walk_range
  have e : (rngD lo n).length = n := by simp [rngD]
  show Walk _ _ _ _
  rw [e]
  exact w.mono (fun H _ => trivial) fun i H x H' hi _ ⟨e1, e2⟩ => by
    subst e2
    exact ⟨.int (lo + (i : Nat)), by simp [rngD, hi], .inl ⟨e1, .int _⟩⟩
/-- a source of data -/
theorem sk_of {H : Hp} (e : Ex F H) {v : V} {d : D} {ds : List D} (r : Rp K F ad v d) (h : itemsD d = some ds) : ∃ k : Sk, v = k.v ∧ (∀ H, Ex F H → k.Ok K.1 H) ∧ RpAll K F ad k.items ds := by
  unfold itemsD at h
  split at h
  · cases h
    obtain ⟨a, vs, rfl, h1, k1⟩ := r.tup_inv
    exact ⟨.tup a vs, rfl, fun H e => ex_t e h1, k1⟩
  · cases h
    obtain ⟨a, vs, rfl, h1, k1⟩ := r.lst_inv
    exact ⟨.lst a vs, rfl, fun H e => .inl (.inl (e _ _ h1)), k1⟩
  · cases h
    cases r
    rename_i z
    refine ⟨.str z, rfl, fun _ _ => trivial, by simp [Sk.items], fun i v d h1 h2 => ?_⟩
    have h1 : (z.cps.toList.map fun c => V.str ⟨#[c]⟩)[i]? = some v := h1
    rw [List.getElem?_map] at h1 h2
    cases q : z.cps.toList[i]? with
    | none => rw [q] at h1; cases h1
    | some c => rw [q] at h1 h2; cases h1; cases h2; exact .str _
  · cases h
theorem walkD_zip {k1 k2 : Sk} {ds es : List D} (o1 : ∀ H, Ex F H → k1.Ok K.1 H) (o2 : ∀ H, Ex F H → k2.Ok K.1 H) (r1 : RpAll K F ad k1.items ds) (r2 : RpAll K F ad k2.items es) :
    WalkD K F ad (ItZ K.1 k1 k2) ((ds.zip es).map fun p => D.tup [p.1, p.2]) := by
  have e : ((ds.zip es).map fun p => D.tup [p.1, p.2]).length = min k1.items.length k2.items.length := by rw [List.length_map, List.length_zip, r1.1, r2.1]
  show Walk _ _ _ _
  rw [e]
  refine ⟨fun i H hi e => ⟨o1 H e, o2 H e, by omega, by omega⟩, fun H e => ⟨o1 H e, o2 H e, by omega, by omega, by omega⟩, fun i H x H' hi e ⟨T, a, b, h1, h2, h3, h4, h5⟩ => ?_⟩
  obtain ⟨da, g1, q1⟩ := r1.get' h4
  obtain ⟨db, g2, q2⟩ := r2.get' h5
  exact ⟨.tup [da, db], by rw [List.getElem?_map, (List.getElem?_zip_eq_some (z := (da, db))).mpr ⟨g1, g2⟩]; rfl, .inr ⟨T, a, b, da, db, h1, h2, h3, rfl, q1, q2⟩⟩
end

/-! ### what is walked: readings -/
def PostI (K : KP) (cad : Nat → Addr) (Rf : Hp) (Wx : XK) (F : Hp) (ad : Ads) (r : R (List D × W)) (Q : It → Hp → Prop) : Prop := match r with
  | .ok (ds, w) => ∀ J H F' ad', Ex F F' → Le ad ad' → SR F' Rf ad' w H → WalkD K F' ad' J ds → Q J H
  | .er e w => ErEnd K cad Rf Wx F ad e w
  | .bad => False
def rdI (K : KP) (cad : Nat → Addr) (Wx : WX) (Φ : Fns) (l : LI) : TI := fun σ H R => ∃ F Rf ad env w, SR F Rf ad w H ∧ EnvR K F ad env σ ∧ PostI K cad Rf (WE Wx σ) F ad (evi Φ env l w) R
theorem PI.imp {X : Cx} {tg e : Expr} {t t' : TI} (h : PI X tg e t) (k : ∀ σ H Q, t' σ H Q → t σ H Q) : PI X tg e t' := ⟨fun pins s σ H Q I x => h.run pins s σ H Q I (k σ H Q x)⟩
section
variable {K : KP} {cad : Nat → Addr} {F Rf : Hp} {ad : Ads} {Wx : XK} {w : W}
theorem PostI.bind {r : R (D × W)} {f : D × W → R (List D × W)} {Q : It → Hp → Prop} {Q' : VK} (h : PostI K cad Rf Wx F ad (r.bind f) Q)
    (k : ∀ d w v H F' ad', Ex F F' → Le ad ad' → SR F' Rf ad' w H → Rp K F' ad' v d → PostI K cad Rf Wx F' ad' (f (d, w)) Q → Q' v H) : PostE K cad Rf Wx false F ad r Q' := by
  cases r with
  | ok a =>
    obtain ⟨d, w⟩ := a
    refine fun v H F' ad' x l s r => k d w v H F' ad' x l s r ?_
    have h : PostI K cad Rf Wx F ad (f (d, w)) Q := h
    cases e : f (d, w) with
    | ok a => rw [e] at h; exact fun J H F2 ad2 a b c r => h J H F2 ad2 (x.trans a) (l.trans b) c r
    | er e' w' => rw [e] at h; exact ErEnd.mono x l h
    | bad => rw [e] at h; exact h
  | er e w => exact h
  | bad => exact h
theorem PostI.here {Q : It → Hp → Prop} {J : It} {H : Hp} {ds : List D} (h : PostI K cad Rf Wx F ad (.ok (ds, w)) Q) (s : SR F Rf ad w H) (r : WalkD K F ad J ds) : Q J H := h J H F ad (Ex.refl F) (Le.refl ad) s r
end
section
variable {X : Cx} {K : KP} {cad : Nat → Addr} {Wx : WX} {Φ : Fns} {tg ea eb : Expr} {a b : LE} {p pos tpos : Pos}
theorem s_itm (h : PE X ea (rdE (kp X) cad Wx Φ false a)) : PI X tg ea (rdI (kp X) cad Wx Φ (.itm a)) :=
  PI.imp (pi_any h) fun σ H Q ⟨F, Rf, ad, env, w, s, n, q⟩ => by
    rw [evi] at q
    refine ⟨F, Rf, ad, env, w, s, n, PostI.bind q fun d w1 v H1 F1 ad1 x1 l1 s1 r1 q1 => ?_⟩
    have q1 : PostI (kp X) cad Rf (WE Wx σ) F1 ad1 (R.of w1 (itemsD d)) Q := q1
    cases e : itemsD d with
    | none => rw [e] at q1; exact q1.elim
    | some ds =>
      rw [e] at q1
      unfold itemsD at e
      split at e
      · cases e
        obtain ⟨a, vs, rfl, h1, k1⟩ := r1.tup_inv
        exact .inr (.inl ⟨a, vs, rfl, ex_t s1.fx h1, q1.here s1 (walkD_tup (K := kp X) h1 k1)⟩)
      · cases e
        obtain ⟨a, vs, rfl, h1, k1⟩ := r1.lst_inv
        exact .inl ⟨a, vs, rfl, .inl (.inl (s1.fx _ _ h1)), q1.here s1 (walkD_list (K := kp X) h1 k1)⟩
      · cases e
        cases r1
        exact .inr (.inr ⟨_, rfl, q1.here s1 (walkD_str _)⟩)
      · cases e
theorem okI_of {i : Int} (h : okI i = true) : -(2 ^ 62) ≤ i ∧ i < 2 ^ 62 := by
  unfold okI at h
  simpa using h
theorem s_rng1 (hg : Gl X "range") (hm : X.mg "range" = none) (h : PA X [ea] (rdA (kp X) cad Wx Φ (.cons a .nil))) (hs : starEach [ea] X.env = [(false, eval ea X.env)]) :
    PI X tg (.Call (.Name "range" p) [ea] [] pos) (rdI (kp X) cad Wx Φ (.rng1 a)) :=
  PI.imp (pi_range1 hg hm h hs) fun σ H Q ⟨F, Rf, ad, env, w, s, n, q⟩ => by
    refine ⟨F, Rf, ad, env, w, s, n, ?_⟩
    rw [evi] at q
    rw [evs]
    cases e1 : ev Φ env a w with
    | er _ _ => rw [e1] at q; exact q
    | bad => rw [e1] at q; exact q
    | ok x =>
      obtain ⟨d, w1⟩ := x
      rw [e1] at q
      intro vs H1 F1 ad1 x1 l1 s1 r1
      obtain ⟨v, rfl, g1⟩ := r1.one
      cases d with
      | int i =>
        cases g1.int_inv
        have q : PostI (kp X) cad Rf (WE Wx σ) F ad (if okI i then .ok (rngD 0 i.toNat, w1) else .bad) Q := q
        split at q
        · rename_i hk
          obtain ⟨k1, k2⟩ := okI_of hk
          exact ⟨_, rfl, k1, k2, q _ _ _ _ x1 l1 s1 (walkD_range 0 _)⟩
        · exact q.elim
      | _ => exact False.elim q
def rng2K (d : D) (y : D × W) : R (List D × W) := match d, y.1 with
  | .int i, .int j => if okI i && okI j then .ok (rngD i (j - i).toNat, y.2) else .bad
  | _, _ => .bad
theorem s_rng2 (hg : Gl X "range") (hm : X.mg "range" = none) (h : PA X [ea, eb] (rdA (kp X) cad Wx Φ (.cons a (.cons b .nil)))) (hs : starEach [ea, eb] X.env = [(false, eval ea X.env), (false, eval eb X.env)]) (hs2 : starEach [eb] X.env = [(false, eval eb X.env)]) :
    PI X tg (.Call (.Name "range" p) [ea, eb] [] pos) (rdI (kp X) cad Wx Φ (.rng2 a b)) :=
  PI.imp (pi_range2 hg hm h hs hs2) fun σ H Q ⟨F, Rf, ad, env, w, s, n, q⟩ => by
    refine ⟨F, Rf, ad, env, w, s, n, ?_⟩
    rw [evi] at q
    rw [evs]
    cases e1 : ev Φ env a w with
    | er _ _ => rw [e1] at q; exact q
    | bad => rw [e1] at q; exact q
    | ok x =>
      obtain ⟨d, w1⟩ := x
      rw [e1] at q
      have q : PostI (kp X) cad Rf (WE Wx σ) F ad ((ev Φ env b w1).bind (rng2K d)) Q := q
      show PostA (kp X) cad Rf (WE Wx σ) F ad ((evs Φ env (.cons b .nil) w1).bind fun y => .ok (d :: y.1, y.2)) _
      rw [evs]
      cases e2 : ev Φ env b w1 with
      | er _ _ => rw [e2] at q; exact q
      | bad => rw [e2] at q; exact q
      | ok y =>
        obtain ⟨e, w2⟩ := y
        rw [e2] at q
        intro vs H1 F1 ad1 x1 l1 s1 r1
        obtain ⟨v, u, rfl, g1, g2⟩ := r1.two
        have q : PostI (kp X) cad Rf (WE Wx σ) F ad (rng2K d (e, w2)) Q := q
        cases d with
        | int i =>
          cases e with
          | int j =>
            cases g1.int_inv; cases g2.int_inv
            have q : PostI (kp X) cad Rf (WE Wx σ) F ad (if okI i && okI j then .ok (rngD i (j - i).toNat, w2) else .bad) Q := q
            split at q
            · rename_i hk
              simp only [Bool.and_eq_true] at hk
              obtain ⟨k1, k2⟩ := okI_of hk.1
              obtain ⟨k3, k4⟩ := okI_of hk.2
              exact ⟨_, _, rfl, ⟨k1, k2, k3, k4⟩, q _ _ _ _ x1 l1 s1 (walkD_range _ _)⟩
            · exact q.elim
          | _ => exact False.elim q
        | _ => exact False.elim q
def zipK (d : D) (y : D × W) : R (List D × W) := match itemsD d, itemsD y.1 with
  | some xs, some ys => .ok ((xs.zip ys).map fun p => .tup [p.1, p.2], y.2)
  | _, _ => .bad
theorem s_zip {elts : List Expr} {kk : Nat} (hg : Gl X "zip") (hm : X.mg "zip" = none) (h : PA X [ea, eb] (rdA (kp X) cad Wx Φ (.cons a (.cons b .nil)))) (hs : starEach [ea, eb] X.env = (false, eval ea X.env) :: starEach [eb] X.env) (hpl : (backTo pos (starEach [eb] X.env)).any (·.1) = false) :
    PI X (.Tuple elts kk tpos) (.Call (.Name "zip" p) [ea, eb] [] pos) (rdI (kp X) cad Wx Φ (.zip a b)) :=
  PI.imp (pi_zipG hg hm h hs hpl) fun σ H Q ⟨F, Rf, ad, env, w, s, n, q⟩ => by
    refine ⟨F, Rf, ad, env, w, s, n, ?_⟩
    rw [evi] at q
    rw [evs]
    cases e1 : ev Φ env a w with
    | er _ _ => rw [e1] at q; exact q
    | bad => rw [e1] at q; exact q
    | ok x =>
      obtain ⟨d, w1⟩ := x
      rw [e1] at q
      have q : PostI (kp X) cad Rf (WE Wx σ) F ad ((ev Φ env b w1).bind (zipK d)) Q := q
      show PostA (kp X) cad Rf (WE Wx σ) F ad ((evs Φ env (.cons b .nil) w1).bind fun y => .ok (d :: y.1, y.2)) _
      rw [evs]
      cases e2 : ev Φ env b w1 with
      | er _ _ => rw [e2] at q; exact q
      | bad => rw [e2] at q; exact q
      | ok y =>
        obtain ⟨e, w2⟩ := y
        rw [e2] at q
        intro vs H1 F1 ad1 x1 l1 s1 r1
        obtain ⟨v, u, rfl, g1, g2⟩ := r1.two
        have q : PostI (kp X) cad Rf (WE Wx σ) F ad (zipK d (e, w2)) Q := q
        unfold zipK at q
        cases f1 : itemsD d with
        | none => rw [f1] at q; exact q.elim
        | some xs =>
          cases f2 : itemsD e with
          | none => rw [f1, f2] at q; exact q.elim
          | some ys =>
            rw [f1, f2] at q
            obtain ⟨k1, rfl, o1, a1⟩ := sk_of s1.fx g1 f1
            obtain ⟨k2, rfl, o2, a2⟩ := sk_of s1.fx g2 f2
            exact ⟨k1, k2, rfl, o1 _ s1.fx, o2 _ s1.fx, q _ _ _ _ x1 l1 s1 (walkD_zip (K := kp X) o1 o2 a1 a2)⟩
end
end LL
/-! == LL7a == -/
set_option Elab.async false
set_option linter.all false
set_option maxRecDepth 100000
set_option maxHeartbeats 4000000
/-! LL, part 23: a dict display of more than 17 pairs -/
namespace PySem
open PyProof.Rows
section
variable {prog : Program} {w : World} {K : Type} [DecidableEq K] {knd : KeyKind prog w K} {A : Around} {E : Value → Shared → Prop} {s : Shared}
theorem ll_dictPut {d : Addr} {kvs : List (K × Value)} {k : K} {key v : Value} {Q : Unit → Shared → Prop} (hkey : knd.is k key = true) (hm : s.heap.DictOf knd d kvs) (hfresh : k ∉ kvs.map (·.1))
    (hQ : ∀ h', h'.DictOf knd d (stored kvs k v) → Heap.SameBut d s.heap h' → Q () { s with heap := h' })
    (hsz : kvs.length ≤ sizeLine := by size_fits) :
    wpAny (model prog w) A (dictPut d (knd.hash k) key v) Q E s := by
  obtain ⟨o, es, ep, ho, hc, hd, hk, hp, hn⟩ := hm
  have hes : es.size ≤ sizeLine := by have e1 := hp.length; have e2 : es.toList.length = es.size := by simp
                                      omega
  unfold dictPut
  refine wpAny_bind (wpAny_dictFind_of hkey ho hd hk ?_)
  have hidx : (es.findIdx? fun e => knd.is k e.key) = kvs.findIdx? fun kv => decide (kv.1 = k) := by
    rw [← hp.findIdx k]; obtain ⟨l⟩ := es; simp
  have hany : ¬ (kvs.any fun kv => decide (kv.1 = k)) = true := by
    rw [List.any_eq_true]; rintro ⟨kv, hkv, he⟩
    exact hfresh (List.mem_map.mpr ⟨kv, hkv, of_decide_eq_true he⟩)
  cases hi : es.findIdx? fun e => knd.is k e.key with
  | some i => exact absurd (any_of_findIdx_some (hidx ▸ hi)) hany
  | none =>
    have hnot : k ∉ kvs.map (·.1) := hfresh
    refine wpAny_updateDictKeys (hz := hes) ho hd (hQ _ ⟨_, _, ep + 1, Heap.get?_update_self _ ho (Obj.isFreed_of_dict (Obj.data_mapDictKeys hd _)),
      hc.mapDictKeys _, Obj.data_mapDictKeys hd _, hk.push hkey _, ?_, ?_⟩ (Heap.SameBut.update ..))
    · rw [stored, if_neg hany]
      have := hp.append hkey (knd.hash k) v
      obtain ⟨l⟩ := es
      simpa using this
    · rw [stored, if_neg hany, List.map_append, List.nodup_append]
      refine ⟨hn, by simp, ?_⟩
      intro a ha b hb
      simp at hb
      subst hb
      rintro rfl
      exact hnot ha
theorem ll_merge1 {d a : Addr} {kvs : List (K × Value)} {k0 : K} {v0 : Value} {Q : Unit → Shared → Prop} (hd : s.heap.DictOf knd d kvs) (ha : s.heap.DictOf knd a [(k0, v0)]) (hne : kvs ≠ []) (hda : a ≠ d) (hsm : (a == sysModules) = false) (hfresh : k0 ∉ kvs.map (·.1))
    (hQ : ∀ h', h'.DictOf knd d (stored kvs k0 v0) → Heap.SameBut d s.heap h' → Q () { s with heap := h' }) (hsz : kvs.length ≤ sizeLine) : wpAny (model prog w) A (mergeMapping d (.ref a) false) Q E s := by
  have hd0 := hd
  have ha0 := ha
  obtain ⟨o, es, ep, ho, hc, hdt, hk, hp, hn⟩ := hd
  obtain ⟨oa, ea, ra, hoa, hca, hda', hka, hpa, hna⟩ := ha
  have hse : ∃ e0, ea = #[e0] ∧ knd.is k0 e0.key = true ∧ e0.val = v0 := by
    obtain ⟨l⟩ := ea
    cases hpa with
    | cons h1 h2 h3 =>
      cases h3
      exact ⟨_, rfl, h1, h2⟩
  obtain ⟨e0, rfl, hk0, hv0⟩ := hse
  have hhash : e0.hash = knd.hash k0 := by
    obtain ⟨k', h1, h2⟩ := hka e0 (by simp)
    have : k' = k0 := knd.inj _ _ _ h1 hk0
    rw [h2, this]
  have hes : es.isEmpty = false := by
    have h1 := hp.length
    cases h2 : es.toList with
    | nil => rw [h2] at h1; exact absurd (List.eq_nil_of_length_eq_zero h1.symm) hne
    | cons x r =>
      obtain ⟨l⟩ := es
      cases l with
      | nil => cases h2
      | cons _ _ => rfl
  have hb : ((some (Value.builtin "dict.__iter__") : Option Value) == some (.builtin "dict.__iter__")) = true := by decide +kernel
  unfold mergeMapping
  refine wpAny_bind (wpAny_isInstance ha0.typeIs isSubtype_dict_dict ?_)
  simp only [if_true]
  refine wpAny_bind (wpAny_specialOf ha0.typeIs F.slot_dict_iter.lookup ?_)
  rw [hb]
  refine wpAny_bind (wpAny_pure ?_)
  show wpAny _ _ (if (a == sysModules) = true then _ else _) _ _ _
  rw [if_neg (by rw [hsm]; decide)]
  refine wpAny_bind (wpAny_dictEntries ho hdt ?_)
  rw [if_neg (by rw [hes]; decide)]
  refine wpAny_bind (wpAny_dictEntries hoa hda' ?_)
  refine wpAny_bind (wpAny_dictEpoch hoa hda' ?_)
  rw [show List.range (#[e0] : Array DictEntry).size = [0] from rfl, List.forIn_cons]
  refine wpAny_bind (wpAny_bind (wpAny_bind (wpAny_dictEntries hoa hda' ?_)))
  show wpAny _ _ (do
    holding [e0.key, e0.val] _
    _) _ _ _
  refine wpAny_bind (wpAny_holding ?_)
  rw [if_neg (by decide)]
  show wpAny _ _ (dictPut d e0.hash e0.key e0.val) _ _ _
  rw [hhash, hv0]
  refine ll_dictPut (hsz := hsz) hk0 hd0 hfresh fun h' hm' hs' => ?_
  have hoa' : h'.get? a = some oa := (hs'.2 a hda).trans hoa
  refine wpAny_bind (wpAny_dictEpoch (s := { s with heap := h' }) hoa' hda' ?_)
  rw [if_neg (by simp)]
  refine wpAny_pure ?_
  show wpAny _ _ (forIn ([] : List Nat) PUnit.unit _) _ _ _
  rw [List.forIn_nil]
  exact wpAny_pure (wpAny_pure (hQ h' hm' hs'))
end
end PySem

namespace L2
open PySem PySem.Spec PyProof.Rows
/-- the pairs of a display, texts all -/
inductive TxtKV : List (Option Expr) → List Expr → List (Str × Str) → Prop where
  | nil : TxtKV [] [] []
  | cons {k v : Str} {i j : Nat} {p q : Pos} {ks : List (Option Expr)} {vs : List Expr} {L : List (Str × Str)} (t : TxtKV ks vs L) : TxtKV (some (.Constant (.str k) i p) :: ks) (.Constant (.str v) j q :: vs) ((k, v) :: L)
def kvs0 (L : List (Str × Str)) : List (Key × V) := L.map fun p => (Sum.inr p.1, V.str p.2)
section
variable {X : Cx} {pins : List (Addr × Obj)} {σ : St} {H : Hp} {s : Shared} {d : Addr} {kvs : List (Key × V)} {E : Value → Shared → Prop}
theorem ll_dset {k : Key} {v : V} {u r : Value} {Q : Unit → Shared → Prop} (I : Inv X pins σ H s) (e : H d = some (.dK kvs)) (rk : RelV (kV k) u) (rv : RelV v r) (hz : kvs.length < sizeLine) (h : ∀ s', Inv X pins σ (upd H d (.dK (putK kvs k v))) s' → Q () s') :
    wpAny (model X.prog X.w) X.A (dictSet d u r) Q E s := by
  obtain ⟨z, hd, vs, rel, dd⟩ := dk_of I.hok e
  have hl : kvs.length = vs.length := Paired.length rel
  refine wpAny_dictSet_pairs (kV_is rk) dd (fun h' dd' hs => h _ ?_) (by omega)
  have he : ∃ q, h'.get? d = some q := let ⟨q, _, _, hq, _⟩ := dd'; ⟨q, hq⟩
  refine d_write I (by rw [e]; exact True.intro) hs he (dk_new ?_ hd (rel.put k rv) dd')
  have := length_putK kvs k v
  omega
theorem ll_long {env : PySem.Env} {pos : Pos} : ∀ {ks : List (Option Expr)} {vs : List Expr} {L : List (Str × Str)} {kvs : List (Key × V)} {H : Hp} {s : Shared} {Q : PUnit → Shared → Prop}, TxtKV ks vs L → Inv X pins σ H s → H d = some (.dK kvs) → kvs.length + L.length ≤ sizeLine →
    (∀ s', Inv X pins σ (upd H d (.dK (mergeK kvs (kvs0 L)))) s' → Q PUnit.unit s') →
    wpAny (model X.prog X.w) X.A (forIn (pairTrees ks vs env pos) PUnit.unit fun (x : Sem Value × Sem Value) (_ : PUnit) => (do let kv ← x.1; let vv ← holding [kv] x.2; holding [kv, vv] (dictSet d kv vv); pure (ForInStep.yield PUnit.unit) : Sem (ForInStep PUnit))) Q E s
  | _, _, _, kvs, H, s, Q, .nil, I, e, hz, h => by
    show wpAny _ _ (forIn ([] : List (Sem Value × Sem Value)) PUnit.unit _) _ _ _
    rw [List.forIn_nil]
    refine wpAny_pure (h s ?_)
    have : upd H d (.dK (mergeK kvs (kvs0 []))) = H := by
      funext b
      by_cases hb : b = d
      · subst hb; rw [upd_same]; exact e.symm
      · rw [upd_ne hb]
    rw [this]; exact I
  | _, _, _, kvs, H, s, Q, @TxtKV.cons k v i j p q ks vs L t, I, e, hz, h => by
    show wpAny _ _ (forIn ((eval (.Constant (.str k) i p) env, do let x ← eval (.Constant (.str v) j q) env; standAt pos; pure x) :: pairTrees ks vs env pos) PUnit.unit _) _ _ _
    rw [List.forIn_cons]
    refine wpAny_bind (wpAny_bind (Calls.Constant_str (env := env) (x := k) (k := i) (pos := p) ?_))
    refine wpAny_bind (wpAny_holding (wpAny_bind (Calls.Constant_str (env := env) (x := v) (k := j) (pos := q) (wpAny_bind (wpAny_standAt (wpAny_pure ?_))))))
    have I2 : Inv X pins σ H { s with toks := s.toks + 1 + 1 } := (I.tok _).tok _
    rw [List.length_cons] at hz
    refine wpAny_bind (wpAny_holding (ll_dset (k := Sum.inr k) (v := V.str v) I2 e ⟨_, rfl⟩ ⟨_, rfl⟩ (by omega) fun s' I3 => wpAny_pure ?_))
    refine ll_long t I3 upd_same (by have := length_putK kvs (Sum.inr k) (V.str v); omega) fun s2 I4 => h s2 ?_
    rw [upd_upd] at I4
    exact I4
end
end L2
/-! == LL7b == -/
set_option Elab.async false
set_option linter.all false
set_option maxRecDepth 100000
set_option maxHeartbeats 4000000
/-! LL, part 24: a dict display of 18 pairs of texts -/
namespace PySem
open PyProof.Rows
theorem ll_gather17 (f : (Option (Sem Value) × Sem Value) → (Option Addr × List (Sem Value × Sem Value)) → Sem (ForInStep (Option Addr × List (Sem Value × Sem Value))))
    (h1 : ∀ (p : Sem Value × Sem Value) (run : List (Sem Value × Sem Value)), run.length + 1 < 17 → f (some p.1, p.2) (none, run) = pure (.yield (none, run ++ [p])))
    (h2 : ∀ (p : Sem Value × Sem Value) (run : List (Sem Value × Sem Value)), run.length + 1 = 17 → f (some p.1, p.2) (none, run) = (do let d ← subDict (run ++ [p]); pure (.yield (some d, [])))) :
    ∀ (items run rest : List (Sem Value × Sem Value)), run.length + items.length = 17 → items ≠ [] → forIn ((items ++ rest).map fun p => (some p.1, p.2)) ((none : Option Addr), run) f = (do let d ← subDict (run ++ items); forIn (rest.map fun p => (some p.1, p.2)) (some d, []) f)
  | [], _, _, _, h => absurd rfl h
  | [p], run, rest, hl, _ => by
    rw [List.singleton_append, List.map_cons, List.forIn_cons, h2 p run (by simpa using hl), bind_assoc]
    simp only [pure_bind]
  | p :: q :: items, run, rest, hl, _ => by
    rw [List.cons_append, List.map_cons, List.forIn_cons, h1 p run (by simp at hl; omega), pure_bind]
    have := ll_gather17 f h1 h2 (q :: items) (run ++ [p]) rest (by simp at hl ⊢; omega) (by simp)
    simpa using this
theorem ll_gatherD (f : (Option (Sem Value) × Sem Value) → (Option Addr × List (Sem Value × Sem Value)) → Sem (ForInStep (Option Addr × List (Sem Value × Sem Value)))) (d : Addr)
    (h3 : ∀ (p : Sem Value × Sem Value) (run : List (Sem Value × Sem Value)), run.length + 1 < 17 → f (some p.1, p.2) (some d, run) = pure (.yield (some d, run ++ [p]))) :
    ∀ (items run : List (Sem Value × Sem Value)), run.length + items.length < 17 → forIn (items.map fun p => (some p.1, p.2)) ((some d : Option Addr), run) f = pure (some d, run ++ items)
  | [], run, _ => by simp
  | p :: rest, run, h => by
    rw [List.map_cons, List.forIn_cons, h3 p run (by simp at h; omega), pure_bind]
    have := ll_gatherD f d h3 rest (run ++ [p]) (by simp at h ⊢; omega)
    simpa using this
theorem ll_display (p1 p2 : List (Sem Value × Sem Value)) (hl1 : p1.length = 17) (hn : p2 ≠ []) (hl2 : p2.length < 17) : dictDisplay ((p1 ++ p2).map fun p => (some p.1, p.2)) = (do
    let d ← subDict p1
    let sub ← holding [.ref d] (subDict p2)
    (holding [.ref d, .ref sub] (mergeMapping d (.ref sub) false)).onRaise fun x => do let _ ← holding [.ref d, x] (runValue (.builtin "proto.let_go" {}))
    pure (.ref d)) := by
  unfold dictDisplay
  dsimp only
  rw [ll_gather17 _ (fun p run h => by
    have hne : ((run ++ [(p.1, p.2)]).length == 17) = false := by simp; omega
    simp only [hne, Bool.false_eq_true, if_false]) (fun p run h => by
    have hne : ((run ++ [(p.1, p.2)]).length == 17) = true := by simp; omega
    have he : (run ++ [(p.1, p.2)]).isEmpty = false := by simp
    simp only [hne, if_true, he, Bool.false_eq_true, if_false]
    simp) p1 [] p2 (by simpa using hl1) (by rintro rfl; simp at hl1)]
  simp only [bind_assoc, List.nil_append]
  congr 1
  funext d
  rw [ll_gatherD _ d (fun p run h => by
    have hne : ((run ++ [(p.1, p.2)]).length == 17) = false := by simp; omega
    simp only [hne, Bool.false_eq_true, if_false]) p2 [] (by simpa using hl2)]
  have he : p2.isEmpty = false := by
    cases p2 with
    | nil => exact absurd rfl hn
    | cons _ _ => rfl
  simp [hn]
end PySem
namespace L2
open PySem PySem.Spec PyProof.Rows
theorem txt_len {ks : List (Option Expr)} {vs : List Expr} {L : List (Str × Str)} (t : TxtKV ks vs L) : ks.length = L.length ∧ vs.length = L.length ∧ ks.all (·.isSome) = true := by
  induction t with
  | nil => exact ⟨rfl, rfl, rfl⟩
  | cons t ih => exact ⟨by simp [ih.1], by simp [ih.2.1], by simp [ih.2.2]⟩
theorem pairTrees_app {env : PySem.Env} {pos : Pos} : ∀ {k1 k2 : List (Option Expr)} {v1 v2 : List Expr} {L : List (Str × Str)}, TxtKV k1 v1 L → pairTrees (k1 ++ k2) (v1 ++ v2) env pos = pairTrees k1 v1 env pos ++ pairTrees k2 v2 env pos
  | _, _, _, _, _, .nil => rfl
  | _, k2, _, v2, _, @TxtKV.cons k v i j p q ks vs L t => by
    have ih := pairTrees_app (env := env) (pos := pos) (k2 := k2) (v2 := v2) t
    show _ :: pairTrees (ks ++ k2) (vs ++ v2) env pos = _ :: (pairTrees ks vs env pos ++ pairTrees k2 v2 env pos)
    rw [ih]
section
variable {X : Cx} {pins : List (Addr × Obj)} {σ : St} {H : Hp} {s : Shared} {E : Value → Shared → Prop}
theorem ll_subLong {env : PySem.Env} {pos : Pos} {ks : List (Option Expr)} {vs : List Expr} {L : List (Str × Str)} {Q : Addr → Shared → Prop} (t : TxtKV ks vs L) (I : Inv X pins σ H s) (hl : 15 < L.length) (hz : L.length ≤ 1000)
    (h : ∀ d s', H d = none → Inv X pins σ (upd H d (.dK (mergeK [] (kvs0 L)))) s' → Q d s') : wpAny (model X.prog X.w) X.A (subDict (pairTrees ks vs env pos)) Q E s := by
  have hn := I.hok.fresh (Nat.le_refl s.heap.objs.size)
  have I1 := I.laid (a := s.heap.objs.size) (o := .dK []) (h' := s.heap.push { cls := .type "dict", data := .dict #[] }) (t' := s.toks) (fun _ _ q => Heap.get?_push_of_some _ q) (Nat.le_refl _) (dk_empty s.heap I.big)
  obtain ⟨l1, l2, l3⟩ := txt_len t
  have hp := pairTrees_length ks vs env pos l3 (by rw [l1, l2])
  unfold subDict
  refine wpAny_bind (wpAny_alloc ?_)
  refine wpAny_bind (wpAny_holding ?_)
  rw [if_neg (by rw [hp, l1]; omega)]
  refine wpAny_bind (wpAny_rule ?_)
  refine wpAny_bind ?_
  refine ll_long (kvs := []) t I1 upd_same (by rw [sizeLine_eq]; simp; omega) fun s2 I2 => wpAny_pure (wpAny_pure ?_)
  rw [upd_upd] at I2
  exact h _ s2 hn I2
theorem ll_subOne {env : PySem.Env} {pos : Pos} {k v : Str} {i j : Nat} {p q : Pos} {Q : Addr → Shared → Prop} (I : Inv X pins σ H s)
    (h : ∀ d s', H d = none → Inv X pins σ (upd H d (.dK [(Sum.inr k, V.str v)])) s' → Q d s') : wpAny (model X.prog X.w) X.A (subDict (pairTrees [some (.Constant (.str k) i p)] [.Constant (.str v) j q] env pos)) Q E s := by
  have hn := I.hok.fresh (Nat.le_refl s.heap.objs.size)
  have I1 := I.laid (a := s.heap.objs.size) (o := .dK []) (h' := s.heap.push { cls := .type "dict", data := .dict #[] }) (t' := s.toks) (fun _ _ q => Heap.get?_push_of_some _ q) (Nat.le_refl _) (dk_empty s.heap I.big)
  unfold subDict
  refine wpAny_bind (wpAny_alloc ?_)
  refine wpAny_bind (wpAny_holding ?_)
  rw [if_pos (by show 1 ≤ 15; omega)]
  show wpAny _ _ (evalPairs [(eval (.Constant (.str k) i p) env, do let x ← eval (.Constant (.str v) j q) env; standAt pos; pure x)] >>= _) _ _ _
  refine wpAny_bind (evalPairs_cons (Calls.Constant_str (env := env) (x := k) (k := i) (pos := p) (wpAny_bind (Calls.Constant_str (env := env) (x := v) (k := j) (pos := q) (wpAny_bind (wpAny_standAt (wpAny_pure (evalPairs_nil ?_))))))))
  refine wpAny_holding ?_
  rw [List.forIn_cons]
  have I2 := I1.tok (s.toks + 1 + 1)
  refine wpAny_bind ?_
  refine wpAny_bind ?_
  show wpAny _ _ (dictSet s.heap.objs.size (Value.str k s.toks) (Value.str v (s.toks + 1)) >>= fun _ => pure (ForInStep.yield PUnit.unit)) _ _ _
  refine wpAny_bind (ll_dset (k := Sum.inr k) (v := V.str v) I2 upd_same ⟨_, rfl⟩ ⟨_, rfl⟩ (by rw [sizeLine_eq]; exact (by decide : 0 < 16777216)) fun s' I3 => wpAny_pure ?_)
  show wpAny _ _ (forIn ([] : List (Value × Value)) PUnit.unit _) _ _ _
  rw [List.forIn_nil]
  rw [upd_upd] at I3
  exact wpAny_pure (wpAny_pure (wpAny_pure (h _ s' hn I3)))
/-- {k: v, ..}, 18 pairs of texts -/
def tDisp18 (L : List (Str × Str)) (k v : Str) : TE := fun _ H Q => ∀ d a, H d = none → H a = none → d ≠ a → Q (.ref d) (upd (upd H a (.dK [(Sum.inr k, V.str v)])) d (.dK (putK (mergeK [] (kvs0 L)) (Sum.inr k) (V.str v))))
theorem ll_kvKeys {kvs : List (Key × V)} {vs : List (Key × Value)} (r : KV kvs vs) : vs.map (·.1) = kvs.map (·.1) := by
  unfold KV at r
  induction r with
  | nil => rfl
  | cons h _ ih => rw [List.map_cons, List.map_cons, ih, h.1]
theorem pe_disp18 {ks : List (Option Expr)} {vs : List Expr} {L : List (Str × Str)} {k v : Str} {i j : Nat} {p q pos : Pos} (t : TxtKV ks vs L) (hl : L.length = 17) (hm : (mergeK [] (kvs0 L)).length = 17) (hf : (Sum.inr k : Key) ∉ (mergeK [] (kvs0 L)).map (·.1)) :
    PE X (.Dict (ks ++ [some (.Constant (.str k) i p)]) (vs ++ [.Constant (.str v) j q]) pos) (tDisp18 L k v) := by
  refine ⟨fun pins s σ H Q I h => ?_⟩
  obtain ⟨l1, l2, l3⟩ := txt_len t
  rw [arm_eval_Dict, zip_pairTrees _ _ _ _ (by rw [List.all_append, l3]; rfl) (by simp [l1, l2]), pairTrees_app t,
    ll_display _ _ (by rw [pairTrees_length _ _ _ _ l3 (by rw [l1, l2]), l1, hl]) (by simp [pairTrees]) (by simp [pairTrees])]
  refine wpAny_bind (wpAny_standAt (wpAny_bind ?_))
  refine ll_subLong t I (by omega) (by omega) fun d s1 hd I1 => ?_
  refine wpAny_bind (wpAny_holding ?_)
  refine ll_subOne I1 fun a s2 ha I2 => ?_
  have hda : a ≠ d := fun e => by rw [e, upd_same] at ha; cases ha
  have ha0 : H a = none := by rwa [upd_ne hda] at ha
  have e1 : (upd (upd H d (.dK (mergeK [] (kvs0 L)))) a (.dK [(Sum.inr k, V.str v)])) d = some (.dK (mergeK [] (kvs0 L))) := by rw [upd_ne (Ne.symm hda), upd_same]
  obtain ⟨z1, hs1, vs1, rel1, dd1⟩ := dk_of I2.hok e1
  obtain ⟨z2, hs2, vs2, rel2, dd2⟩ := dk_of I2.hok upd_same
  obtain ⟨u, rfl, ru⟩ : ∃ u, vs2 = [(Sum.inr k, u)] ∧ RelV (V.str v) u := by
    unfold KV at rel2
    cases rel2 with
    | @cons _ b _ bs h1 h2 =>
      cases h2
      obtain ⟨b1, b2⟩ := b
      obtain ⟨h3, h4⟩ := h1
      cases h3
      exact ⟨b2, rfl, h4⟩
  have hlen : (mergeK [] (kvs0 L)).length = vs1.length := Paired.length rel1
  refine wpAny_bind (wpAny_onRaise (wpAny_holding ?_))
  refine ll_merge1 dd1 dd2 (by rintro rfl; rw [hm] at hlen; cases hlen) hda hs2 (by rw [ll_kvKeys rel1]; exact hf) (fun h' dd' hs => wpAny_pure ?_) (by omega)
  have he : ∃ q, h'.get? d = some q := let ⟨q, _, _, hq, _⟩ := dd'; ⟨q, hq⟩
  have hz : (putK (mergeK [] (kvs0 L)) (Sum.inr k) (V.str v)).length ≤ sizeLine := by
    have := length_putK (mergeK [] (kvs0 L)) (Sum.inr k) (V.str v)
    rw [sizeLine_eq]; omega
  have I3 := d_write (t' := s2.toks) I2 (a := d) (by rw [e1]; exact True.intro) hs he (dk_new hz hs1 (rel1.put (Sum.inr k) ru) dd')
  have e2 : upd (upd (upd H d (.dK (mergeK [] (kvs0 L)))) a (.dK [(Sum.inr k, V.str v)])) d (.dK (putK (mergeK [] (kvs0 L)) (Sum.inr k) (V.str v))) = upd (upd H a (.dK [(Sum.inr k, V.str v)])) d (.dK (putK (mergeK [] (kvs0 L)) (Sum.inr k) (V.str v))) := by
    funext b
    by_cases hb : b = d
    · subst hb; rw [upd_same, upd_same]
    · rw [upd_ne hb, upd_ne hb]
      by_cases hb2 : b = a
      · subst hb2; rw [upd_same, upd_same]
      · rw [upd_ne hb2, upd_ne hb2, upd_ne hb]
  rw [e2] at I3
  exact ⟨.ref d, _, I3, rfl, h d a hd ha0 (Ne.symm hda)⟩
end
/-- keys that are not twice -/
theorem mergeK_fresh : ∀ (more acc : List (Key × V)), ((acc ++ more).map (·.1)).Nodup → mergeK acc more = acc ++ more
  | [], acc, _ => by simp [mergeK]
  | kv :: rest, acc, hn => by
    have hf : (acc.any fun x => decide (x.1 = kv.1)) = false := by
      rw [← Bool.not_eq_true, List.any_eq_true]
      rintro ⟨x, hx, he⟩
      rw [List.map_append, List.map_cons, List.nodup_append] at hn
      exact hn.2.2 x.1 (List.mem_map.mpr ⟨x, hx, rfl⟩) kv.1 List.mem_cons_self (of_decide_eq_true he)
    have e : putK acc kv.1 kv.2 = acc ++ [kv] := by
      unfold putK
      rw [if_neg (by rw [hf]; decide)]
    show mergeK (putK acc kv.1 kv.2) rest = _
    rw [e, mergeK_fresh rest (acc ++ [kv]) (by simpa using hn)]
    simp
theorem kvs0_keys (L : List (Str × Str)) : (kvs0 L).map (·.1) = (L.map (·.1)).map Sum.inr := by simp [kvs0]
theorem nodup_inr {l : List Str} (h : l.Nodup) : (l.map (Sum.inr : Str → Key)).Nodup := List.Pairwise.map _ (fun a b hab e => hab (Sum.inr.inj e)) h
end L2
/-! == LL8 == -/
set_option Elab.async false
set_option linter.all false
set_option maxRecDepth 100000
set_option maxHeartbeats 2000000
/-! LL, part 8: expressions, one by one -/
namespace LL
open PySem PySem.Spec PyProof.Rows L2

section
variable {K : KP} {cad : Nat → Addr} {F Rf : Hp} {ad : Ads} {fr : Bool} {w : W} {z : D} {Wx : XK} {Q : VK}
theorem PostE.endE (p : PostE K cad Rf Wx fr F ad (.ok (z, w)) Q) : EndE K Rf fr F ad w z Q := fun v H' F' x s r => p v H' F' ad x (Le.refl ad) s r
theorem PostE.endO {o : Option D} (p : PostE K cad Rf Wx fr F ad (R.of w o) Q) : ∃ z, o = some z ∧ EndE K Rf fr F ad w z Q := by
  obtain ⟨d, e, p⟩ := PostE.of_some p
  exact ⟨d, e, p.endE⟩
theorem asB_of {d : D} {b : Bool} (h : asB d = some b) : d = .bl b := by
  cases d with
  | bl c => cases h; rfl
  | _ => cases h
theorem PostE.bl {b : Bool} {H : Hp} (p : PostE K cad Rf Wx fr F ad (.ok (.bl b, w)) Q) (s : SR F Rf ad w H) : Q (.bl b) H := p.here s (Res.flat flat_bl (.bl b))
end

section
variable {X : Cx} {cad : Nat → Addr} {Wx : WX} {Φ : Fns} {fr : Bool} {pos : Pos} {ea eb ec : Expr} {a b c : LE}

theorem s_op (o : Op2) (ha : PE X ea (rdE (kp X) cad Wx Φ false a)) (hb : PE X eb (rdE (kp X) cad Wx Φ false b)) : PE X (.BinOp ea (opOf o) eb pos) (rdE (kp X) cad Wx Φ fr (.op o a b)) :=
  PE.imp (pe_op (o_op o) ha hb) (s_two (m := fun x y w => R.of w (opD o x y)) (fun env w => by rw [ev]) fun σ F Rf ad w H Q x y v u s r1 r2 p => by
    obtain ⟨z, e, p⟩ := p.endO
    exact ⟨F, Rf, ad, w, x, y, z, s, r1, r2, e, p⟩)
theorem cm_two (o : Cm) (σ : L2.St) (H : Hp) (Q : VK) (h : rdE (kp X) cad Wx Φ fr (.cm o a b) σ H Q) : tOp (rD (kp X) fr fun x y => (cmD o x y).map .bl) (rdE (kp X) cad Wx Φ false a) (rdE (kp X) cad Wx Φ false b) σ H Q :=
  s_two (m := fun x y w => R.of w ((cmD o x y).map .bl)) (fun env w => by rw [ev]) (fun σ F Rf ad w H Q x y v u s r1 r2 p => by
    obtain ⟨z, e, p⟩ := p.endO
    exact ⟨F, Rf, ad, w, x, y, z, s, r1, r2, e, p⟩) σ H Q h
theorem s_cm (hu : X.A.units + 64 < cLine) (o : Cm) (ha : PE X ea (rdE (kp X) cad Wx Φ false a)) (hb : PE X eb (rdE (kp X) cad Wx Φ false b)) (hm : behindInMarks (cmOf o) eb = false) : PE X (.Compare ea [cmOf o] [eb] pos) (rdE (kp X) cad Wx Φ fr (.cm o a b)) :=
  PE.imp (pe_cmpR (c_op hu o) ha hb hm) (cm_two o)
theorem s_cmT (hu : X.A.units + 64 < cLine) (o : Cm) (ha : PE X ea (rdE (kp X) cad Wx Φ false a)) (hb : PE X eb (rdE (kp X) cad Wx Φ false b)) (hm : behindInMarks (cmOf o) eb = false) : PT X (.Compare ea [cmOf o] [eb] pos) (tB (rdE (kp X) cad Wx Φ false (.cm o a b))) :=
  PT.imp (pt_cmpR (c_op hu o) ha hb hm) fun σ H Q h => cm_two o σ H _ h
theorem chain_two (o p : Cm) (σ : L2.St) (H : Hp) (Q : VK) (h : rdE (kp X) cad Wx Φ fr (.chain o p a b c) σ H Q) :
    tChain (rD (kp X) false fun x y => (cmD o x y).map .bl) (rD (kp X) fr fun x y => (cmD p x y).map .bl) (rdE (kp X) cad Wx Φ false a) (rdE (kp X) cad Wx Φ false b) (rdE (kp X) cad Wx Φ false c) σ H Q := by
  obtain ⟨F, Rf, ad, env, w, s, n, q⟩ := h
  rw [ev] at q
  refine ⟨F, Rf, ad, env, w, s, n, PostE.bind q fun x w1 v H1 F1 ad1 x1 l1 s1 r1 q1 => ?_⟩
  refine ⟨F1, Rf, ad1, env, w1, s1, n.mono x1 l1, PostE.bind q1 fun y w2 u H2 F2 ad2 x2 l2 s2 r2 q2 => ?_⟩
  have r1 := r1.mono x2 l2
  cases e : cmD o x y with
  | none => simp only [e] at q2; exact q2.elim
  | some t =>
    refine ⟨F2, Rf, ad2, w2, x, y, .bl t, s2, r1, r2, by simp only [e]; rfl, fun z' H' F' x' s' r' => ⟨t, r'.rp.bl_inv, ?_⟩⟩
    have nn := ((n.mono x1 l1).mono x2 l2).mono x' (Le.refl ad2)
    cases t with
    | false =>
      simp only [e] at q2
      have q2 : PostE (kp X) cad Rf (WE Wx σ) fr F2 ad2 (.ok (.bl false, w2)) Q := q2
      exact ite_ff ((q2.mono x' (Le.refl ad2)).bl s')
    | true =>
      simp only [e] at q2
      refine ite_tt ⟨F', Rf, ad2, env, w2, s', nn, PostE.bind (q2.mono x' (Le.refl ad2)) fun g w3 t H3 F3 ad3 x3 l3 s3 r3 q3 => ?_⟩
      obtain ⟨z, e3, p3⟩ := q3.endO
      exact ⟨F3, Rf, ad3, w3, y, g, z, s3, (r2.mono x' (Le.refl ad2)).mono x3 l3, r3, e3, p3⟩
theorem s_chain (hu : X.A.units + 64 < cLine) (o p : Cm) (ha : PE X ea (rdE (kp X) cad Wx Φ false a)) (hb : PE X eb (rdE (kp X) cad Wx Φ false b)) (hc : PE X ec (rdE (kp X) cad Wx Φ false c)) (hm : lastMarks [cmOf o, cmOf p] [eb, ec] = false) :
    PE X (.Compare ea [cmOf o, cmOf p] [eb, ec] pos) (rdE (kp X) cad Wx Φ fr (.chain o p a b c)) := PE.imp (pe_chain (c_op hu o) (c_op hu p) ha hb hc hm) (chain_two o p)
theorem s_chainT (hu : X.A.units + 64 < cLine) (o p : Cm) (ha : PE X ea (rdE (kp X) cad Wx Φ false a)) (hb : PE X eb (rdE (kp X) cad Wx Φ false b)) (hc : PE X ec (rdE (kp X) cad Wx Φ false c)) (hm : lastMarks [cmOf o, cmOf p] [eb, ec] = false) :
    PT X (.Compare ea [cmOf o, cmOf p] [eb, ec] pos) (tB (rdE (kp X) cad Wx Φ false (.chain o p a b c))) := PT.imp (pt_chain (c_op hu o) (c_op hu p) ha hb hc hm) fun σ H Q h => chain_two o p σ H _ h
theorem not_one (σ : L2.St) (H : Hp) (Q : VK) (h : rdE (kp X) cad Wx Φ fr (.not_ a) σ H Q) : rdE (kp X) cad Wx Φ false a σ H fun x H1 => ∃ c, x = .bl c ∧ Q (.bl (!c)) H1 :=
  s_one (m := fun x w => R.of w ((asB x).map fun b => .bl (!b))) (r := fun x H1 Q => ∃ c, x = .bl c ∧ Q (.bl (!c)) H1) (fun env w => by rw [ev]) (fun σ F Rf ad w H Q x v s r p => by
    obtain ⟨z, e, p⟩ := PostE.of_some p
    obtain ⟨c, e1, rfl⟩ := ofm e
    obtain rfl := asB_of e1
    exact ⟨c, r.bl_inv, p.bl s⟩) σ H Q h
theorem s_not (ha : PE X ea (rdE (kp X) cad Wx Φ false a)) : PE X (.UnaryOp .Not ea pos) (rdE (kp X) cad Wx Φ fr (.not_ a)) := PE.imp (pe_not ha) not_one
theorem s_notT (ha : PT X ea (tB (rdE (kp X) cad Wx Φ false a))) : PT X (.UnaryOp .Not ea pos) (tB (rdE (kp X) cad Wx Φ false (.not_ a))) :=
  PT.imp (pt_not ha) fun σ H Q ⟨F, Rf, ad, env, w, s, n, q⟩ => by
    obtain ⟨F, Rf, ad, env, w, s, n, q⟩ := not_one (fr := false) σ H _ ⟨F, Rf, ad, env, w, s, n, q⟩
    refine ⟨F, Rf, ad, env, w, s, n, ?_⟩
    cases e : ev Φ env a w with
    | er _ _ => rw [e] at q; exact q
    | bad => rw [e] at q; exact q
    | ok y =>
      rw [e] at q
      intro v H1 F1 ad1 x1 l1 s1 r1
      obtain ⟨c, e1, d, e2, q2⟩ := q v H1 F1 ad1 x1 l1 s1 r1
      cases e2
      exact ⟨c, e1, q2⟩
theorem s_neg (ha : PE X ea (rdE (kp X) cad Wx Φ false a)) : PE X (.UnaryOp .USub ea pos) (rdE (kp X) cad Wx Φ fr (.neg a)) :=
  PE.imp (pe_un un_neg ha) (s_one (m := fun x w => match x with | .int i => .ok (.int (-i), w) | _ => .bad) (r := fun x H1 Q => rU (fun i => .int (-i)) x H1 Q) (fun env w => by first | (rw [ev]; done) | (rw [ev]; rfl)) fun σ F Rf ad w H Q x v s r p => by
    cases x with
    | int i => exact ⟨i, r.int_inv, PostE.here p s (Res.flat (fun _ h => nomatch h) (.int _))⟩
    | _ => exact False.elim p)
theorem s_ix (hu : X.A.units + 64 < cLine) (ha : PE X ea (rdE (kp X) cad Wx Φ false a)) (hb : PE X eb (rdE (kp X) cad Wx Φ false b)) (hs : PlainIx eb) : PE X (.Subscript ea eb pos) (rdE (kp X) cad Wx Φ false (.ix a b)) :=
  PE.imp (pe_ix (i_ix hu) ha hb hs) (s_two (m := fun x y w => R.of w (ixD x y)) (fun env w => by rw [ev]) fun σ F Rf ad w H Q x y v u s r1 r2 p => by
    obtain ⟨z, e, p⟩ := p.endO
    exact ⟨F, Rf, ad, w, x, y, z, s, r1, r2, e, p⟩)
theorem s_rev {k : Nat} {p1 p2 p3 : Pos} (ha : PE X ea (rdE (kp X) cad Wx Φ false a)) : PE X (.Subscript ea (.Slice none none (some (.UnaryOp .USub (.Constant (.int 1) k p1) p2)) p3) pos) (rdE (kp X) cad Wx Φ fr (.rev a)) :=
  PE.imp (pe_revL ha) (s_one (m := fun x w => match x with | .lst ds => .ok (.lst ds.reverse, w) | _ => .bad) (r := fun x H1 Q => ∃ a xs, x = .ref a ∧ SqL X.K H1 a xs ∧ ∀ p, H1 p = none → Q (.ref p) (upd H1 p (.lst xs.reverse))) (fun env w => by first | (rw [ev]; done) | (rw [ev]; rfl)) fun σ F Rf ad w H Q x v s r p => by
    cases x with
    | lst ds =>
      obtain ⟨a, vs, rfl, h1, r1⟩ := r.lst_inv
      exact ⟨a, vs, rfl, .inl (.inl (s.fx _ _ h1)), PostE.newLst p s r1.reverse⟩
    | _ => exact False.elim p)

/-! ### and, or, if -/
theorem and_two (σ : L2.St) (H : Hp) (Q : VK) (h : rdE (kp X) cad Wx Φ fr (.and_ a b) σ H Q) : rdE (kp X) cad Wx Φ false a σ H fun x H1 => ∃ c, x = .bl c ∧ if c = true then rdE (kp X) cad Wx Φ fr b σ H1 Q else Q (.bl false) H1 := by
  obtain ⟨F, Rf, ad, env, w, s, n, q⟩ := h
  rw [ev] at q
  refine ⟨F, Rf, ad, env, w, s, n, PostE.bind q fun x w1 v H1 F1 ad1 x1 l1 s1 r1 q1 => ?_⟩
  cases e : asB x with
  | none => simp only [e] at q1; exact q1.elim
  | some t =>
    obtain rfl := asB_of e
    refine ⟨t, r1.bl_inv, ?_⟩
    cases t with
    | false => exact ite_ff (PostE.bl q1 s1)
    | true => exact ite_tt ⟨F1, Rf, ad1, env, w1, s1, n.mono x1 l1, q1⟩
theorem or_two (σ : L2.St) (H : Hp) (Q : VK) (h : rdE (kp X) cad Wx Φ fr (.or_ a b) σ H Q) : rdE (kp X) cad Wx Φ false a σ H fun x H1 => ∃ c, x = .bl c ∧ if c = true then Q (.bl true) H1 else rdE (kp X) cad Wx Φ fr b σ H1 Q := by
  obtain ⟨F, Rf, ad, env, w, s, n, q⟩ := h
  rw [ev] at q
  refine ⟨F, Rf, ad, env, w, s, n, PostE.bind q fun x w1 v H1 F1 ad1 x1 l1 s1 r1 q1 => ?_⟩
  cases e : asB x with
  | none => simp only [e] at q1; exact q1.elim
  | some t =>
    obtain rfl := asB_of e
    refine ⟨t, r1.bl_inv, ?_⟩
    cases t with
    | true => exact ite_tt (PostE.bl q1 s1)
    | false => exact ite_ff ⟨F1, Rf, ad1, env, w1, s1, n.mono x1 l1, q1⟩
theorem s_and {rest : List Expr} (ha : PE X ea (rdE (kp X) cad Wx Φ false a)) (hb : PE X (.BoolOp .And (eb :: rest) pos) (rdE (kp X) cad Wx Φ fr b)) : PE X (.BoolOp .And (ea :: eb :: rest) pos) (rdE (kp X) cad Wx Φ fr (.and_ a b)) := PE.imp (pe_and ha hb) and_two
theorem s_or {rest : List Expr} (ha : PE X ea (rdE (kp X) cad Wx Φ false a)) (hb : PE X (.BoolOp .Or (eb :: rest) pos) (rdE (kp X) cad Wx Φ fr b)) : PE X (.BoolOp .Or (ea :: eb :: rest) pos) (rdE (kp X) cad Wx Φ fr (.or_ a b)) := PE.imp (pe_or ha hb) or_two
/-- the same reading, another end -/
theorem rd_imp {e : LE} {σ : L2.St} {H : Hp} {Q Q' : VK} (h : rdE (kp X) cad Wx Φ fr e σ H Q) (k : ∀ v H, Q v H → Q' v H) : rdE (kp X) cad Wx Φ fr e σ H Q' := by
  obtain ⟨F, Rf, ad, env, w, s, n, q⟩ := h
  refine ⟨F, Rf, ad, env, w, s, n, ?_⟩
  cases e : ev Φ env e w with
  | er _ _ => rw [e] at q; exact q
  | bad => rw [e] at q; exact q
  | ok y => rw [e] at q; exact fun v H1 F1 ad1 x1 l1 s1 r1 => k _ _ (q v H1 F1 ad1 x1 l1 s1 r1)
theorem s_andT {rest : List Expr} (ha : PT X ea (tB (rdE (kp X) cad Wx Φ false a))) (hb : PW X (.BoolOp .And (eb :: rest) pos) (tB (rdE (kp X) cad Wx Φ false b))) : PW X (.BoolOp .And (ea :: eb :: rest) pos) (tB (rdE (kp X) cad Wx Φ false (.and_ a b))) :=
  ⟨fun wh pins s σ H Q I h => (pw_and ha hb).run wh pins s σ H Q I (rd_imp (and_two σ H _ h) fun v H1 ⟨c, e, q⟩ => ⟨c, e, by
    cases c with
    | true => exact q
    | false =>
      obtain ⟨c', e', q'⟩ := q
      cases e'
      exact q'⟩)⟩
theorem s_orT {rest : List Expr} (ha : PT X ea (tB (rdE (kp X) cad Wx Φ false a))) (hb : PW X (.BoolOp .Or (eb :: rest) pos) (tB (rdE (kp X) cad Wx Φ false b))) : PW X (.BoolOp .Or (ea :: eb :: rest) pos) (tB (rdE (kp X) cad Wx Φ false (.or_ a b))) :=
  ⟨fun wh pins s σ H Q I h => (pw_or ha hb).run wh pins s σ H Q I (rd_imp (or_two σ H _ h) fun v H1 ⟨c, e, q⟩ => ⟨c, e, by
    cases c with
    | false => exact q
    | true =>
      obtain ⟨c', e', q'⟩ := q
      cases e'
      exact q'⟩)⟩
theorem ite_three (σ : L2.St) (H : Hp) (Q : VK) (h : rdE (kp X) cad Wx Φ fr (.ite c a b) σ H Q) : tB (rdE (kp X) cad Wx Φ false c) σ H fun k H1 => if k = true then rdE (kp X) cad Wx Φ fr a σ H1 Q else rdE (kp X) cad Wx Φ fr b σ H1 Q := by
  obtain ⟨F, Rf, ad, env, w, s, n, q⟩ := h
  rw [ev] at q
  refine ⟨F, Rf, ad, env, w, s, n, PostE.bind q fun x w1 v H1 F1 ad1 x1 l1 s1 r1 q1 => ?_⟩
  cases e : asB x with
  | none => simp only [e] at q1; exact q1.elim
  | some t =>
    obtain rfl := asB_of e
    refine ⟨t, r1.bl_inv, ?_⟩
    cases t with
    | true => exact ite_tt ⟨F1, Rf, ad1, env, w1, s1, n.mono x1 l1, q1⟩
    | false => exact ite_ff ⟨F1, Rf, ad1, env, w1, s1, n.mono x1 l1, q1⟩
theorem s_ite (hc : PT X ec (tB (rdE (kp X) cad Wx Φ false c))) (ha : PE X ea (rdE (kp X) cad Wx Φ fr a)) (hb : PE X eb (rdE (kp X) cad Wx Φ fr b)) : PE X (.IfExp ec ea eb pos) (rdE (kp X) cad Wx Φ fr (.ite c a b)) := PE.imp (pe_ifExp hc ha hb) ite_three
theorem s_iteT (hc : PT X ec (tB (rdE (kp X) cad Wx Φ false c))) (ha : PT X ea (tB (rdE (kp X) cad Wx Φ false a))) (hb : PT X eb (tB (rdE (kp X) cad Wx Φ false b))) : PT X (.IfExp ec ea eb pos) (tB (rdE (kp X) cad Wx Φ false (.ite c a b))) := by
  refine ⟨fun pins s σ H Q I h => ?_⟩
  show wpAny _ _ (do if ← isTrue ec X.env (eval ec X.env) then isTrue ea X.env (eval ea X.env) else isTrue eb X.env (eval eb X.env)) _ _ _
  refine wpAny_bind (thn (hc.run pins s σ H _ I (ite_three σ H _ h)) fun k s1 ⟨H1, I1, q1⟩ => ?_)
  cases k with
  | true => exact ha.run pins s1 σ H1 Q I1 q1
  | false => exact hb.run pins s1 σ H1 Q I1 q1

/-! ### slices -/
theorem s_sl {lo hi : Option Expr} {l h : LE} {p2 : Pos} (ha : PE X ea (rdE (kp X) cad Wx Φ false a)) (hl : (lo = none ∧ isNop l = true) ∨ ∃ e, lo = some e ∧ isNop l = false ∧ PE X e (rdE (kp X) cad Wx Φ false l)) (hh : (hi = none ∧ isNop h = true) ∨ ∃ e, hi = some e ∧ isNop h = false ∧ PE X e (rdE (kp X) cad Wx Φ false h)) :
    PE X (.Subscript ea (.Slice lo hi none p2) pos) (rdE (kp X) cad Wx Φ fr (.sl a l h)) := by
  have part : ∀ {lo : Option Expr} {l : LE}, ((lo = none ∧ isNop l = true) ∨ ∃ e, lo = some e ∧ isNop l = false ∧ PE X e (rdE (kp X) cad Wx Φ false l)) → ∃ t : TO, PO X lo t ∧
      ∀ (σ : L2.St) (H : Hp) (Q : VK) (Q' : Option Int → Hp → Prop) (F Rf : Hp) (ad : Ads) (env : Env) (w : W) (f : Option Int × W → R (D × W)), SR F Rf ad w H → EnvR (kp X) F ad env σ →
        PostE (kp X) cad Rf (WE Wx σ) fr F ad ((evoF (isNop l) (fun w => ev Φ env l w) w).bind f) Q →
        (∀ o w1 H1 F1 ad1, Ex F F1 → Le ad ad1 → SR F1 Rf ad1 w1 H1 → PostE (kp X) cad Rf (WE Wx σ) fr F1 ad1 (f (o, w1)) Q → Q' o H1) → t σ H Q' := fun {lo l} h => by
    rcases h with ⟨rfl, e⟩ | ⟨x, rfl, e, hp⟩
    · refine ⟨_, po_none, fun σ H Q Q' F Rf ad env w f s n q k => ?_⟩
      rw [e] at q
      exact k none w H F ad (Ex.refl F) (Le.refl ad) s q
    · refine ⟨_, po_some hp, fun σ H Q Q' F Rf ad env w f s n q k => ?_⟩
      rw [e] at q
      refine ⟨F, Rf, ad, env, w, s, n, ?_⟩
      unfold evoF at q
      simp only at q
      cases e1 : ev Φ env l w with
      | er _ _ => rw [e1] at q; exact q
      | bad => rw [e1] at q; exact q
      | ok y =>
        obtain ⟨d, w1⟩ := y
        rw [e1] at q
        intro v H1 F1 ad1 x1 l1 s1 r1
        cases d with
        | int i => exact ⟨i, r1.rp.int_inv, k _ w1 H1 F1 ad1 x1 l1 s1 (PostE.mono (r := f (some i, w1)) x1 l1 q)⟩
        | _ => exact False.elim q
  obtain ⟨tl, pl, kl⟩ := part hl
  obtain ⟨th, ph, kh⟩ := part hh
  refine PE.imp (pe_slice (i_sl (fr := fr)) ha pl ph) fun σ H Q ⟨F, Rf, ad, env, w, s, n, q⟩ => ?_
  rw [ev] at q
  refine ⟨F, Rf, ad, env, w, s, n, PostE.bind q fun x w1 v H1 F1 ad1 x1 l1 s1 r1 q1 => ?_⟩
  refine kl σ H1 Q _ F1 Rf ad1 env w1 _ s1 (n.mono x1 l1) q1 fun o w2 H2 F2 ad2 x2 l2 s2 q2 => ?_
  refine kh σ H2 Q _ F2 Rf ad2 env w2 _ s2 ((n.mono x1 l1).mono x2 l2) q2 fun o' w3 H3 F3 ad3 x3 l3 s3 q3 => ?_
  obtain ⟨z, e, p⟩ := q3.endO
  exact ⟨F3, Rf, ad3, w3, x, z, s3, (r1.mono x2 l2).mono x3 l3, e, p⟩

/-! ### methods of texts -/
theorem toStrs_of : ∀ {ds : List D} {ns : List Str}, D.toStrs ds = some ns → ds = ns.map D.str
  | [], ns, h => by cases h; rfl
  | .str i :: r, ns, h => by
    rw [D.toStrs] at h
    obtain ⟨ms, e, rfl⟩ := ofm h
    rw [toStrs_of e]; rfl
  | .non :: _, _, h => by cases h
  | .bl _ :: _, _, h => by cases h
  | .int _ :: _, _, h => by cases h
  | .tup _ :: _, _, h => by cases h
  | .lst _ :: _, _, h => by cases h
  | .dct _ _ :: _, _, h => by cases h
  | .ob _ :: _, _, h => by cases h
  | .scr _ :: _, _, h => by cases h
theorem rp_strs {K : KP} {F : Hp} {ad : Ads} : ∀ {ns : List Str} {vs : List V}, RpAll K F ad vs (ns.map D.str) → vs = ns.map V.str
  | [], vs, h => h.nil_of
  | n :: ns, vs, h => by
    cases vs with
    | nil => exact absurd h.1 (by simp)
    | cons v vs =>
      obtain ⟨d, es, e, r1, r2⟩ := h.uncons
      cases e
      rw [r1.str_inv, rp_strs r2]; rfl
def smN : Sm → Str
  | .split => "split" | .join => "join"
theorem s_smeth (m : Sm) {apos cpos : Pos} (ha : PE X ea (rdE (kp X) cad Wx Φ false a)) (hb : PE X eb (rdE (kp X) cad Wx Φ false b)) (hs : starEach [eb] X.env = [(false, eval eb X.env)]) (hbase : attributeBase ea (smN m) X.env (eval ea X.env) = eval ea X.env) (hline : (apos.endLine == cpos.line) = true) :
    PE X (.Call (.Attribute ea (smN m) apos) [eb] [] cpos) (rdE (kp X) cad Wx Φ fr (.smeth m a b)) := by
  have core : ∀ (r : V → List V → Hp → VK → Prop), (∀ σ F Rf ad w H Q (s : Str) y u, SR F Rf ad w H → Rp (kp X) F ad u y → PostE (kp X) cad Rf (WE Wx σ) fr F ad (R.of w (smD m (.str s) y)) Q → r (.str s) [u] H Q) →
      ∀ σ H Q, rdE (kp X) cad Wx Φ fr (.smeth m a b) σ H Q → tM1 r (rdE (kp X) cad Wx Φ false a) (rdE (kp X) cad Wx Φ false b) σ H Q := fun r hr σ H Q ⟨F, Rf, ad, env, w, s, n, q⟩ => by
    rw [ev] at q
    refine ⟨F, Rf, ad, env, w, s, n, PostE.bind q fun x w1 v H1 F1 ad1 x1 l1 s1 r1 q1 => ?_⟩
    cases x with
    | str z =>
      obtain rfl := r1.str_inv
      refine ⟨⟨z, rfl⟩, F1, Rf, ad1, env, w1, s1, n.mono x1 l1, ?_⟩
      have q1 : PostE (kp X) cad Rf (WE Wx σ) fr F1 ad1 ((ev Φ env b w1).bind fun (y, w) => R.of w (smD m (.str z) y)) Q := q1
      exact PostE.bind q1 fun y w2 u H2 F2 ad2 x2 l2 s2 r2 q2 => hr σ F2 Rf ad2 w2 H2 Q z y u s2 r2 q2
    | _ => exact False.elim q1
  cases m with
  | split =>
    refine PE.imp (pe_split ha hb hs hbase hline) (core _ fun σ F Rf ad w H Q z y u s r p => ?_)
    obtain ⟨zz, e, p⟩ := PostE.of_some p
    unfold smD at e
    cases y with
    | str b =>
      obtain ⟨⟨h1, h2⟩, rfl⟩ := ofs e
      obtain rfl := r.str_inv
      exact ⟨z, b, rfl, rfl, h1, big_le h2, PostE.newLst p s (.strs _)⟩
    | _ => cases e
  | join =>
    refine PE.imp (pe_join ha hb hs hbase hline) (core _ fun σ F Rf ad w H Q z y u s r p => ?_)
    obtain ⟨zz, e, p⟩ := PostE.of_some p
    unfold smD at e
    have go : ∀ {ds : List D} {vs : List V}, RpAll (kp X) F ad vs ds → joinD z ds = some zz → ∃ ys : List Str, vs = ys.map V.str ∧ (ys.map (·.length)).sum + ys.length * z.length ≤ 16777216 ∧ Q (.str (Txt.join z ys)) H := fun {ds vs} k h => by
      unfold joinD at h
      cases e2 : D.toStrs ds with
      | none => rw [e2] at h; cases h
      | some ys =>
        rw [e2] at h
        obtain ⟨h1, h2⟩ := ofs (c := (ys.map (·.length)).sum + ys.length * z.length ≤ big) h
        rw [toStrs_of e2] at k
        subst h2
        exact ⟨ys, rp_strs k, h1, PostE.here p s (Res.flat (fun _ h => nomatch h) (.str _))⟩
    cases y with
    | lst ds =>
      obtain ⟨a, vs, rfl, h1, k1⟩ := r.lst_inv
      obtain ⟨ys, rfl, h2, h3⟩ := go k1 e
      exact ⟨z, a, ys, rfl, rfl, .inl (.inl (.inl (s.fx _ _ h1))), h2, h3⟩
    | tup ds =>
      obtain ⟨a, vs, rfl, h1, k1⟩ := r.tup_inv
      obtain ⟨ys, rfl, h2, h3⟩ := go k1 e
      exact ⟨z, a, ys, rfl, rfl, .inr (ex_t s.fx h1), h2, h3⟩
    | _ => cases e
/-! ### a dict display of 18 pairs of texts -/
theorem s_dsp {ks : List (Option Expr)} {vs : List Expr} {L : List (Str × Str)} {k v : Str} {i j : Nat} {p q : Pos} (t : TxtKV ks vs L) (hl : L.length = 17) (hn : (L.map (·.1) ++ [k]).Nodup) :
    PE X (.Dict (ks ++ [some (.Constant (.str k) i p)]) (vs ++ [.Constant (.str v) j q]) pos) (rdE (kp X) cad Wx Φ fr (.dsp L k v)) := by
  have hn1 : ((kvs0 L).map (·.1)).Nodup := by rw [kvs0_keys]; exact nodup_inr (List.nodup_append.mp hn).1
  have em : mergeK [] (kvs0 L) = kvs0 L := by simpa using mergeK_fresh (kvs0 L) [] (by simpa using hn1)
  have hk : (Sum.inr k : Key) ∉ (kvs0 L).map (·.1) := by
    rw [kvs0_keys]
    intro h
    obtain ⟨x, hx, e⟩ := List.mem_map.mp h
    obtain rfl := Sum.inr.inj e
    exact (List.nodup_append.mp hn).2.2 x hx x List.mem_cons_self rfl
  have ep : putK (kvs0 L) (Sum.inr k) (V.str v) = kvs0 L ++ [(Sum.inr k, V.str v)] := by
    unfold putK
    rw [if_neg]
    rw [List.any_eq_true]
    rintro ⟨x, hx, he⟩
    exact hk (List.mem_map.mpr ⟨x, hx, of_decide_eq_true he⟩)
  refine PE.imp (pe_disp18 t hl (by rw [em]; simp [kvs0, hl]) (by rw [em]; exact hk)) fun σ H Q ⟨F, Rf, ad, env, w, s, n, q⟩ => ?_
  rw [ev] at q
  intro d a hd ha hda
  rw [em, ep]
  have s1 : SR F Rf ad w (upd H a (.dK [(Sum.inr k, V.str v)])) := s.lay ha
  have hd1 : (upd H a (.dK [(Sum.inr k, V.str v)])) d = none := by rw [upd_ne hda]; exact hd
  have s2 := s1.laid (o := .dK (kvs0 L ++ [(Sum.inr k, V.str v)])) hd1
  refine q (.ref d) _ _ ad (Ex.new (s.fnone hd)) (Le.refl ad) s2 (Res.flat (fun _ h => nomatch h) ?_)
  refine Rp.dct upd_same ?_ (by simp [kvs0]) fun i' pr d' h1 h2 => ?_
  · simp [kvs0]
  · have e0 : kvs0 L ++ [(Sum.inr k, V.str v)] = (L ++ [(k, v)]).map fun p => ((Sum.inr p.1 : Key), V.str p.2) := by simp [kvs0]
    have e1 : (L.map (·.2) ++ [v]).map D.str = (L ++ [(k, v)]).map fun p => D.str p.2 := by simp
    rw [e0, List.getElem?_map] at h1
    rw [e1, List.getElem?_map] at h2
    cases e : (L ++ [(k, v)])[i']? with
    | none => rw [e] at h1; cases h1
    | some z => rw [e] at h1 h2; cases h1; cases h2; exact .str _
/-! ### builtins -/
theorem bi_rds {es : LEs} {bb : Bi} (σ : L2.St) (H : Hp) (Q : VK) (h : rdE (kp X) cad Wx Φ fr (.bi bb es) σ H Q) : rdA (kp X) cad Wx Φ es σ H fun vs H1 => rDs (kp X) fr (biD bb) vs H1 Q := by
  obtain ⟨F, Rf, ad, env, w, s, n, q⟩ := h
  rw [ev] at q
  refine ⟨F, Rf, ad, env, w, s, n, PostE.bindA q fun ds w1 vs H1 F1 ad1 x1 l1 s1 r1 q1 => ?_⟩
  obtain ⟨z, e, p⟩ := PostE.endO q1
  exact ⟨F1, Rf, ad1, w1, ds, z, s1, r1, e, p⟩
end
end LL
/-! == LL9 == -/
set_option Elab.async false
set_option linter.all false
set_option maxRecDepth 100000
set_option maxHeartbeats 2000000
/-! LL, part 9: targets, comprehensions, calls -/
namespace LL
open PySem PySem.Spec PyProof.Rows L2

/-! ### targets -/
def gNames : List Nat → TGs
  | [] => gNil
  | i :: is => gCons (gName i) (gNames is)
def gT (K : PySem.W.Frag) : Tg → TG
  | .one i => gName i
  | .many is => gTup K is.length (gNames is)
def Tg.ixs : Tg → List Nat
  | .one i => [i]
  | .many is => is
/-- only slots of vs are other -/
def Only (vs : List Nat) (σ σ' : L2.St) : Prop := ∀ own : List Nat, (∀ i, i ∈ vs → i ∈ own) → wipe σ' own = wipe σ own
theorem wipe_len (σ : L2.St) (vs : List Nat) : (wipe σ vs).length = σ.length := wipe_length σ vs
theorem wipe_get (σ : L2.St) (vs : List Nat) (i : Nat) : (wipe σ vs)[i]? = if i ∈ vs then (if i < σ.length then some none else none) else σ[i]? := by
  induction vs with
  | nil => simp [wipe]
  | cons v vs ih =>
    unfold wipe
    rw [List.getElem?_set, ih]
    by_cases h : v = i
    · subst h
      simp [wipe_len]
    · rw [if_neg h]
      have e : (i ∈ v :: vs) = (i ∈ vs) := by simp [List.mem_cons, Ne.symm h]
      simp only [e]
theorem wipe_set {σ : L2.St} {own : List Nat} {i : Nat} (h : i ∈ own) (o : Option V) : wipe (σ.set i o) own = wipe σ own := by
  apply List.ext_getElem?
  intro j
  rw [wipe_get, wipe_get]
  by_cases q : j ∈ own
  · simp [q]
  · rw [if_neg q, if_neg q, List.getElem?_set_ne (by rintro rfl; exact q h)]
theorem wipe_wipe (σ : L2.St) (vs : List Nat) : wipe (wipe σ vs) vs = wipe σ vs := by
  apply List.ext_getElem?
  intro j
  rw [wipe_get, wipe_get, wipe_len]
  split <;> rfl
theorem wipeE_len (env : Env) : ∀ vs : List Nat, (wipeE env vs).length = env.length
  | [] => rfl
  | v :: vs => by unfold wipeE; rw [List.length_set, wipeE_len env vs]
theorem wipeE_some {env : Env} {i : Nat} {d : D} : ∀ {vs : List Nat}, (wipeE env vs)[i]? = some (some d) → env[i]? = some (some d) ∧ i ∉ vs
  | [], h => ⟨h, by simp⟩
  | v :: vs, h => by
    unfold wipeE at h
    rw [List.getElem?_set] at h
    split at h
    · split at h <;> cases h
    · rename_i n
      obtain ⟨a, b⟩ := wipeE_some h
      exact ⟨a, by simp [b]; exact fun e => n e.symm⟩
section
variable {K : KP} {F : Hp} {ad : Ads} {env : Env} {σ : L2.St}
theorem EnvR.wipe (n : EnvR K F ad env σ) (vs : List Nat) : EnvR K F ad (wipeE env vs) (L2.wipe σ vs) := ⟨by rw [wipeE_len, wipe_len]; exact n.1, fun i d h => by
  obtain ⟨a, b⟩ := wipeE_some h
  obtain ⟨v, c, r⟩ := n.2 i d a
  exact ⟨v, by rw [wipe_get, if_neg b]; exact c, r⟩⟩
theorem EnvR.set (n : EnvR K F ad env σ) {i : Nat} {v : V} {d : D} (r : Rp K F ad v d) : EnvR K F ad (env.set i (some d)) (σ.set i (some v)) := ⟨by simp [n.1], fun j e h => by
  rw [List.getElem?_set] at h ⊢
  split at h
  · rename_i q
    split at h
    · rename_i q2
      cases h
      exact ⟨v, by rw [if_pos q, if_pos (by rw [← n.1]; exact q2)], r⟩
    · cases h
  · rename_i q
    rw [if_neg q]
    exact n.2 j e h⟩
theorem EnvR.clear (n : EnvR K F ad env σ) {i : Nat} : EnvR K F ad (env.set i none) σ := ⟨by simp [n.1], fun j e h => by
  rw [List.getElem?_set] at h
  split at h
  · split at h <;> cases h
  · exact n.2 j e h⟩
theorem names_bind : ∀ (is : List Nat) (vs : List V) (ds : List D) (env env' : Env) (σ : L2.St) (H : Hp) (Q : L2.St → Hp → Prop), EnvR K F ad env σ → RpAll K F ad vs ds → bindTs is ds env = some env' →
    (∀ σ', EnvR K F ad env' σ' → Only is σ σ' → Q σ' H) → gNames is vs σ H Q
  | [], vs, ds, env, env', σ, H, Q, n, r, e, k => by
    cases ds with
    | nil =>
      cases e
      exact ⟨r.nil_of, k σ n fun _ _ => rfl⟩
    | cons _ _ => cases e
  | i :: is, vs, ds, env, env', σ, H, Q, n, r, e, k => by
    cases ds with
    | nil => cases e
    | cons d ds =>
      cases vs with
      | nil => exact absurd r.1 (by simp)
      | cons v vs =>
        obtain ⟨d', es, e', r1, r2⟩ := r.uncons
        cases e'
        refine ⟨v, vs, rfl, names_bind is vs ds _ env' _ H Q (n.set r1) r2 e fun σ' n' o => k σ' n' fun own h => ?_⟩
        rw [o own fun j hj => h j (List.mem_cons_of_mem _ hj), wipe_set (h i List.mem_cons_self)]
theorem bindTs_len : ∀ {is : List Nat} {ds : List D} {env env' : Env}, bindTs is ds env = some env' → ds.length = is.length
  | [], [], _, _, _ => rfl
  | _ :: is, _ :: ds, env, env', h => by
    have := bindTs_len (is := is) (ds := ds) h
    simp [this]
  | [], _ :: _, _, _, h => by cases h
  | _ :: _, [], _, _, h => by cases h
theorem gT_bind {Rf H : Hp} {w : W} (s : SR F Rf ad w H) {tg : Tg} {v : V} {d : D} {env' : Env} {Q : L2.St → Hp → Prop} (n : EnvR K F ad env σ) (r : Rp K F ad v d) (e : bindT tg d env = some env')
    (k : ∀ σ', EnvR K F ad env' σ' → Only tg.ixs σ σ' → Q σ' H) : gT K.1 tg v σ H Q := by
  cases tg with
  | one i =>
    cases e
    exact k _ (n.set r) fun own h => wipe_set (h i List.mem_cons_self) _
  | many is =>
    cases d with
    | tup ds =>
      obtain ⟨a, vs, rfl, h1, k1⟩ := r.tup_inv
      exact ⟨a, vs, rfl, ex_t s.fx h1, by rw [k1.1]; exact bindTs_len e, names_bind is vs ds env env' σ H Q n k1 e k⟩
    | _ => cases e
end

/-! ### frames -/
section
variable {F Rf : Hp} {ad : Ads} {w : W} {H : Hp}
/-- a new object of the frame -/
theorem SR.layR (s : SR F Rf ad w H) {p : Addr} {o : HO} (hp : H p = none) : SR F (upd Rf p o) ad w (upd H p o) := by
  have l := s.lay (o := o) hp
  have fp := s.fnone hp
  refine ⟨l.fx, fun a u e => ?_, fun a u e => ?_, ⟨l.wk.len, l.wk.cell, fun n q h => ?_, l.wk.apart⟩⟩
  · by_cases ha : a = p
    · subst ha; rw [upd_same] at e ⊢; exact e
    · rw [upd_ne ha] at e ⊢; exact s.rx _ _ e
  · by_cases ha : a = p
    · subst ha; exact fp
    · rw [upd_ne ha] at e; exact s.dj _ _ e
  · obtain ⟨⟨o1, h1⟩, ⟨o2, h2⟩⟩ := s.wk.there h
    obtain ⟨x, y, z, t⟩ := s.wk.f1 n q h
    exact ⟨x, y, by rw [upd_ne (ne_of_none h1 hp)]; exact z, by rw [upd_ne (ne_of_none h2 hp)]; exact t⟩
theorem SR.apart {p : Addr} {o : HO} (s : SR F Rf ad w H) (h : Rf p = some o) : ∀ (n : Nat) (q : Addr × Addr), ad[n]? = some q → q.1 ≠ p ∧ q.2 ≠ p := fun n q hq => by
  obtain ⟨x, y, z, t⟩ := s.wk.f1 n q hq
  exact ⟨fun e => (by rw [e, h] at z; cases z), fun e => (by rw [e, h] at t; cases t)⟩
/-- an object of the frame changes -/
theorem SR.redo {p : Addr} {o o' : HO} (s : SR F (upd Rf p o) ad w H) : SR F (upd Rf p o') ad w (upd H p o') := by
  have fp : F p = none := s.dj p o upd_same
  have ap := s.apart (p := p) (o := o) upd_same
  refine ⟨fun a u e => ?_, fun a u e => ?_, fun a u e => ?_, ⟨s.wk.len, fun n q c h k => ?_, fun n q h => ?_, s.wk.apart⟩⟩
  · by_cases ha : a = p
    · subst ha; rw [fp] at e; cases e
    · rw [upd_ne ha]; exact s.fx _ _ e
  · by_cases ha : a = p
    · subst ha; rw [upd_same] at e ⊢; exact e
    · rw [upd_ne ha] at e ⊢; exact s.rx _ _ (by rw [upd_ne ha]; exact e)
  · by_cases ha : a = p
    · subst ha; exact fp
    · rw [upd_ne ha] at e; exact s.dj _ _ (by rw [upd_ne ha]; exact e)
  · obtain ⟨n1, n2⟩ := ap n q h
    exact (s.wk.cell n q c h k).at (upd_ne n1) (upd_ne n2)
  · obtain ⟨n1, n2⟩ := ap n q h
    obtain ⟨x, y, z, t⟩ := s.wk.f1 n q h
    exact ⟨x, y, by rw [upd_ne n1] at z ⊢; exact z, by rw [upd_ne n2] at t ⊢; exact t⟩
/-- an object of the frame is let go -/
theorem SR.drop {p : Addr} {o : HO} (s : SR F (upd Rf p o) ad w H) (hr : Rf p = none) : SR F Rf ad w H := by
  have sub : ∀ a u, Rf a = some u → upd Rf p o a = some u := fun a u e => by
    rw [upd_ne (fun q => by rw [q, hr] at e; cases e)]; exact e
  refine ⟨s.fx, fun a u e => s.rx _ _ (sub a u e), fun a u e => s.dj _ _ (sub a u e), ⟨s.wk.len, s.wk.cell, fun n q h => ?_, s.wk.apart⟩⟩
  obtain ⟨n1, n2⟩ := s.apart upd_same n q h
  obtain ⟨x, y, z, t⟩ := s.wk.f1 n q h
  rw [upd_ne n1] at z
  rw [upd_ne n2] at t
  exact ⟨x, y, z, t⟩
end

/-! ### a list comprehension -/
/-- one turn -/
def compF (Φ : Fns) (env : Env) (tg : Tg) (cond elt : LE) (own : List Nat) (d : D) (w : W) : R (Option D × W) := match bindT tg d (wipeE env own) with
  | none => .bad
  | some env' => (match isNop cond with | true => R.ok (D.bl true, w) | false => ev Φ env' cond w).bind fun (x, w) => match asB x with
    | some true => (ev Φ env' elt w).bind fun (y, w) => .ok (some y, w)
    | some false => .ok (none, w)
    | none => .bad
theorem ev_comp (Φ : Fns) (env : Env) (tg : Tg) (it : LI) (cond elt : LE) (own : List Nat) (w : W) : ev Φ env (.comp tg it cond elt own) w =
    (evi Φ env it w).bind fun (ds, w) => (compGo (compF Φ env tg cond elt own) ds w).noer.bind fun (xs, w) => if xs.length ≤ big then .ok (.lst xs, w) else .bad := by rw [ev]; rfl
theorem R.bind_ok_inv {α β : Type} {x : R α} {f : α → R β} {b : β} (h : x.bind f = .ok b) : ∃ a, x = .ok a ∧ f a = .ok b := by
  cases x with
  | ok a => exact ⟨a, rfl, h⟩
  | er _ _ => cases h
  | bad => cases h
theorem noer_ok_inv {α : Type} {x : R α} {a : α} (h : x.noer = .ok a) : x = .ok a := by
  cases x with
  | ok _ => exact h
  | er _ _ => cases h
  | bad => cases h
theorem compGo_len (f : D → W → R (Option D × W)) : ∀ (ds : List D) (w : W) (xs : List D) (w' : W), compGo f ds w = .ok (xs, w') → xs.length ≤ ds.length
  | [], w, xs, w', h => by cases h; exact Nat.le_refl _
  | d :: ds, w, xs, w', h => by
    obtain ⟨⟨o, w1⟩, e1, h⟩ := R.bind_ok_inv h
    obtain ⟨⟨rest, w2⟩, e2, h⟩ := R.bind_ok_inv h
    have := compGo_len f ds w1 rest w2 e2
    cases o <;> cases h <;> simp <;> omega
section
variable {X : Cx} {cad : Nat → Addr} {Wx : WX} {Φ : Fns} {fr : Bool} {pos : Pos}
abbrev W0 : WX := fun _ _ _ _ => False
theorem s_compT {elt tg iter : Expr} {ifs : List Expr} {scope : Scope} {own : List (Str × Nat)} {tgl : Tg} {it : LI} {cond el : LE} (hc : X.calm = true) (hN : X.N.Nodup) (hi : PI X tg iter (rdI (kp X) cad Wx Φ it)) (ok : BlkOk X.N X.env.scope scope own)
    (hg : ∀ (s : Shared) (H : Hp) (C : Addr) (cl : List (Str × Addr)) (fp : List Addr), PG (X.blk s H scope (compEnvC scope cl C X.env) fp) tg (gT X.K tgl))
    (ht : (ifs = [] ∧ isNop cond = true) ∨ ∃ c, ifs = [c] ∧ isNop cond = false ∧ ∀ (s : Shared) (H : Hp) (C : Addr) (cl : List (Str × Addr)) (fp : List Addr), PT (X.blk s H scope (compEnvC scope cl C X.env) fp) c (tB (rdE (kp X) cad W0 Φ false cond)))
    (he : ∀ (s : Shared) (H : Hp) (C : Addr) (cl : List (Str × Addr)) (fp : List Addr), PE (X.blk s H scope (compEnvC scope cl C X.env) fp) elt (rdE (kp X) cad W0 Φ false el))
    (hs : ∀ x, foldedSetIterable iter X.env x = pure x) (hown : ∀ i, i ∈ tgl.ixs → i ∈ own.map (·.2)) : ∃ tt : TT, (∀ (s : Shared) (H : Hp) (C : Addr) (cl : List (Str × Addr)) (fp : List Addr), PTs (X.blk s H scope (compEnvC scope cl C X.env) fp) ifs tt) ∧
      ∀ σ H Q, rdE (kp X) cad Wx Φ fr (.comp tgl it cond el (own.map (·.2))) σ H Q → tLc (rdI (kp X) cad Wx Φ it) (gT X.K tgl) tt (rdE (kp X) cad W0 Φ false el) (own.map (·.2)) σ H Q := by
  have htt : ∃ tt : TT, (∀ (s : Shared) (H : Hp) (C : Addr) (cl : List (Str × Addr)) (fp : List Addr), PTs (X.blk s H scope (compEnvC scope cl C X.env) fp) ifs tt) ∧
      ∀ (σ : L2.St) (H : Hp) (Q : Bool → Hp → Prop) (F Rf : Hp) (ad : Ads) (env : Env) (w w1 : W) (x : D), SR F Rf ad w H → EnvR (kp X) F ad env σ → (match isNop cond with | true => R.ok (D.bl true, w) | false => ev Φ env cond w) = .ok (x, w1) →
        (∀ b H1 F1 ad1, x = .bl b → Ex F F1 → Le ad ad1 → SR F1 Rf ad1 w1 H1 → Q b H1) → (∃ b, x = .bl b) → tt σ H Q := by
    rcases ht with ⟨rfl, e⟩ | ⟨c, rfl, e, hp⟩
    · refine ⟨tYes, fun _ _ _ _ _ => pts_nil, fun σ H Q F Rf ad env w w1 x s n h k _ => ?_⟩
      rw [e] at h
      cases h
      exact k true H F ad rfl (Ex.refl F) (Le.refl ad) s
    · refine ⟨_, fun s H C cl fp => pts_one (hp s H C cl fp), fun σ H Q F Rf ad env w w1 x s n h k ⟨b, eb⟩ => ?_⟩
      rw [e] at h
      have h : ev Φ env cond w = .ok (x, w1) := h
      refine ⟨F, Rf, ad, env, w, s, n, ?_⟩
      rw [h]
      intro v H1 F1 ad1 x1 l1 s1 r1
      subst eb
      exact ⟨b, r1.rp.bl_inv, k b H1 F1 ad1 rfl x1 l1 s1⟩
  obtain ⟨tt, hpt, htt⟩ := htt
  refine ⟨tt, hpt, fun σ H Q ⟨F, Rf, ad, env, w, s, n, q⟩ => ?_⟩
  rw [ev_comp] at q
  refine ⟨F, Rf, ad, env, w, s, n, ?_⟩
  cases e1 : evi Φ env it w with
  | er _ _ => rw [e1] at q; exact q
  | bad => rw [e1] at q; exact q
  | ok y =>
    obtain ⟨ds, w1⟩ := y
    rw [e1] at q
    intro J H1 F1 ad1 x1 l1 s1 wk D0 hD0
    have q : PostE (kp X) cad Rf (WE Wx σ) fr F ad ((compGo (compF Φ env tgl cond el (own.map (·.2))) ds w1).noer.bind fun (xs, w) => if xs.length ≤ big then .ok (.lst xs, w) else .bad) Q := q
    cases e2 : (compGo (compF Φ env tgl cond el (own.map (·.2))) ds w1).noer with
    | er _ _ => exfalso; revert e2; cases compGo (compF Φ env tgl cond el (own.map (·.2))) ds w1 <;> intro e2 <;> cases e2
    | bad => rw [e2] at q; exact q.elim
    | ok y =>
      obtain ⟨xs, wz⟩ := y
      rw [e2] at q
      have e2 := noer_ok_inv e2
      have q : PostE (kp X) cad Rf (WE Wx σ) fr F ad (if xs.length ≤ big then .ok (.lst xs, wz) else .bad) Q := q
      by_cases hz : xs.length ≤ big
      · rw [if_pos hz] at q
        refine lc_it wk (fun i H => ∃ F' ad' w' vacc dacc rest, Ex F1 F' ∧ Le ad1 ad' ∧ SR F' (upd Rf D0 (.lst vacc)) ad' w' H ∧ RpAll (kp X) F' ad' vacc dacc ∧ compGo (compF Φ env tgl cond el (own.map (·.2))) (ds.drop i) w' = .ok (rest, wz) ∧ dacc ++ rest = xs) ?_ ?_ ?_ ?_
        · exact ⟨F1, ad1, w1, [], [], xs, Ex.refl F1, Le.refl ad1, s1.layR hD0, .nil, e2, rfl⟩
        · rintro i H' hi ⟨F', ad', w', vacc, dacc, rest, x', l', s', r', e', e''⟩
          exact x'.trans s'.fx
        · rintro i x H' H'' hi ⟨F', ad', w', vacc, dacc, rest, x', l', s', r', e', e''⟩ ⟨d, hd, hy⟩
          have hdr : ds.drop i = d :: ds.drop (i + 1) := by
            obtain ⟨hlt, hg⟩ := List.getElem?_eq_some_iff.mp hd
            rw [← hg]; exact (List.drop_eq_getElem_cons hlt)
          rw [hdr] at e'
          obtain ⟨⟨o, w2⟩, f1, e'⟩ := R.bind_ok_inv e'
          obtain ⟨⟨rest', w3⟩, f2, e'⟩ := R.bind_ok_inv e'
          obtain ⟨F2, x2, s2, rd⟩ : ∃ F2, Ex F' F2 ∧ SR F2 (upd Rf D0 (.lst vacc)) ad' w' H'' ∧ Rp (kp X) F2 ad' x d := by
            rcases hy with ⟨rfl, rd⟩ | ⟨T, a, b, da, db, rfl, hT, rfl, rfl, ra, rb⟩
            · exact ⟨F', Ex.refl F', s', rd.mono x' l'⟩
            · have fT := s'.fnone hT
              refine ⟨_, Ex.new fT, s'.laid hT, ?_⟩
              exact RpAll.tup (.inl (.inl upd_same)) (.cons ((ra.mono x' l').mono (Ex.new fT) (Le.refl _)) (.cons ((rb.mono x' l').mono (Ex.new fT) (Le.refl _)) .nil))
          have nw := ((((n.mono x1 l1).mono x' l').mono x2 (Le.refl ad')).wipe (own.map (·.2)))
          unfold compF at f1
          cases eb : bindT tgl d (wipeE env (own.map (·.2))) with
          | none => rw [eb] at f1; cases f1
          | some env' =>
            rw [eb] at f1
            obtain ⟨⟨c, w4⟩, g1, f1⟩ := R.bind_ok_inv f1
            refine gT_bind s2 nw rd eb fun σ2 n2 o2 => ⟨by rw [o2 _ hown]; exact wipe_wipe _ _, ?_⟩
            have hb : ∃ b, c = .bl b := by
              cases eq : asB c with
              | none => simp only [eq] at f1; cases f1
              | some b => exact ⟨b, asB_of eq⟩
            refine htt σ2 H'' _ F2 _ ad' env' w' w4 c s2 n2 g1 (fun b H3 F3 ad3 ec x3 l3 s3 => ?_) hb
            subst ec
            cases b with
            | false =>
              cases f1
              cases e'
              exact ite_ff ⟨F3, ad3, _, vacc, dacc, _, (x'.trans x2).trans x3, l'.trans l3, s3, r'.mono (x2.trans x3) l3, f2, e''⟩
            | true =>
              have f1 : ((ev Φ env' el w4).bind fun (y, w) => .ok (some y, w)) = R.ok (o, w2) := f1
              obtain ⟨⟨y, w5⟩, g2, f1⟩ := R.bind_ok_inv f1
              cases f1
              cases e'
              refine ite_tt ⟨F3, _, ad3, env', w4, s3, n2.mono x3 l3, ?_⟩
              rw [g2]
              intro v H4 F4 ad4 x4 l4 s4 r4
              have hacc : H4 D0 = some (.lst vacc) := s4.rx _ _ upd_same
              refine ⟨vacc, hacc, ?_, F4, ad4, _, vacc ++ [v], dacc ++ [y], rest', ((x'.trans x2).trans x3).trans x4, (l'.trans l3).trans l4, s4.redo, ((r'.mono (x2.trans x3) l3).mono x4 l4).append (.cons r4.rp .nil), f2, by rw [← e'']; simp⟩
              have h1 : dacc.length + 1 ≤ xs.length := by rw [← e'']; simp
              rw [r'.1, sizeLine_eq]
              unfold big at hz
              omega
        · rintro H' ⟨F', ad', w', vacc, dacc, rest, x', l', s', r', e', e''⟩
          rw [List.drop_length] at e'
          cases e'
          rw [List.append_nil] at e''
          subst e''
          have hD : H' D0 = some (.lst vacc) := s'.rx _ _ upd_same
          have fD : F' D0 = none := s'.dj _ _ upd_same
          have rD : Rf D0 = none := s1.rnone hD0
          have sd := s'.drop rD
          have ap := s'.apart upd_same
          cases fr with
          | true => exact q (.ref D0) H' F' ad' (x1.trans x') (l1.trans l') sd ⟨D0, vacc, rfl, hD, r', fD, rD, ap⟩
          | false => exact q (.ref D0) H' (upd F' D0 (.lst vacc)) ad' ((x1.trans x').trans (Ex.new fD)) (l1.trans l') (sd.know hD rD ap) ((r'.mono (Ex.new fD) (Le.refl ad')).lst upd_same)
      · rw [if_neg hz] at q
        exact q.elim
theorem s_comp {elt tg iter : Expr} {ifs : List Expr} {scope : Scope} {own : List (Str × Nat)} {tgl : Tg} {it : LI} {cond el : LE} (hc : X.calm = true) (hN : X.N.Nodup) (hi : PI X tg iter (rdI (kp X) cad Wx Φ it)) (ok : BlkOk X.N X.env.scope scope own)
    (hg : ∀ (s : Shared) (H : Hp) (C : Addr) (cl : List (Str × Addr)) (fp : List Addr), PG (X.blk s H scope (compEnvC scope cl C X.env) fp) tg (gT X.K tgl))
    (ht : (ifs = [] ∧ isNop cond = true) ∨ ∃ c, ifs = [c] ∧ isNop cond = false ∧ ∀ (s : Shared) (H : Hp) (C : Addr) (cl : List (Str × Addr)) (fp : List Addr), PT (X.blk s H scope (compEnvC scope cl C X.env) fp) c (tB (rdE (kp X) cad W0 Φ false cond)))
    (he : ∀ (s : Shared) (H : Hp) (C : Addr) (cl : List (Str × Addr)) (fp : List Addr), PE (X.blk s H scope (compEnvC scope cl C X.env) fp) elt (rdE (kp X) cad W0 Φ false el))
    (hs : ∀ x, foldedSetIterable iter X.env x = pure x) (hown : ∀ i, i ∈ tgl.ixs → i ∈ own.map (·.2)) : PE X (.ListComp elt [⟨tg, iter, ifs, 0⟩] scope pos) (rdE (kp X) cad Wx Φ fr (.comp tgl it cond el (own.map (·.2)))) := by
  obtain ⟨tt, hpt, k⟩ := s_compT (Wx := Wx) (fr := fr) hc hN hi ok hg ht he hs hown
  exact PE.imp (pe_lc hc hN hi ok hg hpt he hs) k
end

/-! ### calls -/
/-- what a function promises -/
def spOf (K : KP) (cad : Nat → Addr) (fr : Bool) (f : List D → W → R (D × W)) : Sp := fun vs H Q E => ∃ F Rf ad ds w, SR F Rf ad w H ∧ RpAll K F ad vs ds ∧ PostE K cad Rf E fr F ad (f ds w) Q
structure FnI where
  x : Str
  ps : List Str
  fr : Bool
  kw : Bool := false
structure FnX (X : Cx) (cad : Nat → Addr) (Φ : List D → W → R (D × W)) (i : FnI) : Prop where
  ex : ∃ (k : Nat) (a : Addr) (fd : FuncData), FnOk X.prog X.w X.K X.mg X.base (L2.CX X.prog X.w) k a fd i.ps (spOf (kp X) cad i.fr Φ) ∧ Room k X.A ∧ X.mg i.x = some (.ref a) ∧ PySem.W.keepIn X.K (.ref a) = true ∧ Binds X.K fd i.ps [] ∧
    (i.kw = true → ∀ (s : Shared) (ws : List Value), ws.length = i.ps.length → BindsTo s fd ⟨[], i.ps.zip ws⟩ (i.ps.zip ws))
section
variable {X : Cx} {cad : Nat → Addr} {Wx : WX} {Φ : Fns} {fr : Bool} {p pos : Pos} {e : Expr} {es : List Expr} {ls : LEs} {i : FnI} {f : Nat}
theorem call_sp {σ : L2.St} {H : Hp} {Q : VK} (h : rdE (kp X) cad Wx Φ fr (.call f ls) σ H Q) : rdA (kp X) cad Wx Φ ls σ H fun vs H1 => spOf (kp X) cad fr (Φ f) vs H1 Q (WE Wx σ) := by
  obtain ⟨F, Rf, ad, env, w, s, n, q⟩ := h
  rw [ev] at q
  exact ⟨F, Rf, ad, env, w, s, n, PostE.bindA q fun ds w1 vs H1 F1 ad1 x1 l1 s1 r1 q1 => ⟨F1, Rf, ad1, ds, w1, s1, r1, q1⟩⟩
theorem s_call (fx : FnX X cad (Φ f) i) (tk : Takes X Wx) (hg : Gl X i.x) (ha : PA X (e :: es) (rdA (kp X) cad Wx Φ ls)) (hdb : (i.x == ("__debug__" : Str)) = false) (he : starEach (e :: es) X.env = (false, eval e X.env) :: starEach es X.env)
    (hpl : (backTo pos (starEach es X.env)).any (·.1) = false) : PE X (.Call (.Name i.x p) (e :: es) [] pos) (rdE (kp X) cad Wx Φ i.fr (.call f ls)) := by
  obtain ⟨k, a, fd, F, hr, hm, hk, hb, _⟩ := fx.ex
  exact PE.imp (pe_callS F hr hg hm hk hb (fun σ => passAt tk σ) ha hdb he hpl) fun σ H Q h => call_sp h
theorem s_call0 (fx : FnX X cad (Φ f) i) (tk : Takes X Wx) (hg : Gl X i.x) (hdb : (i.x == ("__debug__" : Str)) = false) : PE X (.Call (.Name i.x p) [] [] pos) (rdE (kp X) cad Wx Φ i.fr (.call f .nil)) := by
  obtain ⟨k, a, fd, F, hr, hm, hk, hb, _⟩ := fx.ex
  refine ⟨fun pins s σ H Q I h => ?_⟩
  refine wpAny_Call_Name_kw (ld_glob I hg hm ?_ hdb)
  refine PySem.W.callWith_K0 I.kIn hk (run_fnS (us := []) (vs := []) F hr hb (passAt tk σ) I .nil ?_)
  obtain ⟨F, Rf, ad, env, w, s, n, q⟩ := h
  rw [ev, evs] at q
  exact ⟨F, Rf, ad, [], w, s, .nil, q⟩
theorem kw_names {env : PySem.Env} {pos : Pos} : ∀ {kws : List Keyword} {ps : List Str}, kws.map (·.arg) = ps.map some → (backToKw pos (keywordEach kws env)).all (·.1.isSome) = true ∧ (backToKw pos (keywordEach kws env)).filterMap (·.1) = ps ∧ (backToKw pos (keywordEach kws env)).any (·.1.isNone) = false
  | [], [], _ => ⟨rfl, rfl, rfl⟩
  | ⟨nm, e, kp⟩ :: kws, p :: ps, h => by
    rw [List.map_cons, List.map_cons] at h
    injection h with h1 h2
    have h1 : nm = some p := h1
    subst h1
    obtain ⟨a, b, c⟩ := kw_names (env := env) (pos := pos) h2
    refine ⟨?_, ?_, ?_⟩
    · show (true && (backToKw pos (keywordEach kws env)).all (·.1.isSome)) = true
      rw [a]; rfl
    · show p :: (backToKw pos (keywordEach kws env)).filterMap (·.1) = p :: ps
      rw [b]
    · show (false || (backToKw pos (keywordEach kws env)).any (·.1.isNone)) = false
      rw [c]; rfl
  | [], _ :: _, h => by cases h
  | _ :: _, [], h => by cases h
theorem s_callK {kws : List Keyword} (fx : FnX X cad (Φ f) i) (hkw : i.kw = true) (tk : Takes X Wx) (hg : Gl X i.x) (ha : PK X kws (rdA (kp X) cad Wx Φ ls)) (hdb : (i.x == ("__debug__" : Str)) = false) (hn : kws.map (·.arg) = i.ps.map some) :
    PE X (.Call (.Name i.x p) [] kws pos) (rdE (kp X) cad Wx Φ i.fr (.call f ls)) := by
  obtain ⟨k, a, fd, F, hr, hm, hk, hb, hbk⟩ := fx.ex
  obtain ⟨n1, n2, n3⟩ := kw_names (env := X.env) (pos := pos) hn
  refine ⟨fun pins s σ H Q I h => ?_⟩
  refine wpAny_Call_Name_kw (ld_glob I hg hm ?_ hdb)
  refine PySem.W.callWith_KW0 (h₀ := X.base) I.ok.mod.kin hk n1 (thn (ha.run pos pins s σ H _ I (call_sp h)) fun ws s2 ⟨zs, H2, I2, rz, q2⟩ => ⟨I2.kIn, ?_⟩) (by
    show (false || (backToKw pos (keywordEach kws X.env)).any (·.1.isNone)) = false
    rw [n3]; rfl)
  rw [n2]
  have hl : ws.length = i.ps.length := by rw [← rz.length]; exact F.len _ _ _ _ q2
  refine wpAny_call (codeAny_mono (F.run X.A X.stack s2 H2 ⟨[], i.ps.zip ws⟩ ws zs Q (WE Wx σ) hr I2.env0 (hbk hkw s2 ws hl) rz q2) fun r s' hq => ?_)
  cases r with
  | error e => exact passAt tk σ pins H2 s2 e s' I2 hq
  | ok fl =>
    cases fl with
    | ret u => exact I2.after hq
    | next => exact False.elim hq
    | brk => exact False.elim hq
    | cont => exact False.elim hq
/-- a built-in function, a built-in type -/
theorem s_bi (hc : X.calm = true) (b : Bi) (hb : ∀ ts, b ≠ .isi ts) {x : Str} (hg : Gl X x) (hm : X.mg x = none) (hv : bootBuiltins x = some (biV b)) (ha : PA X (e :: es) (rdA (kp X) cad Wx Φ ls)) (hn : x ≠ "__name__") (hdb : (x == ("__debug__" : Str)) = false)
    (he : starEach (e :: es) X.env = (false, eval e X.env) :: starEach es X.env) (hpl : (backTo pos (starEach es X.env)).any (·.1) = false) : PE X (.Call (.Name x p) (e :: es) [] pos) (rdE (kp X) cad Wx Φ fr (.bi b ls)) := by
  have co := b_op (X := X) (fr := fr) hc b hb
  have t : ∃ s, biV b = .builtin s ∨ biV b = .type s := by cases b <;> first | exact ⟨_, .inl rfl⟩ | exact ⟨_, .inr rfl⟩
  obtain ⟨s, t | t⟩ := t
  · rw [t] at co hv
    exact PE.imp (pe_callB co hg hm hv ha hn hdb he hpl) fun σ H Q h => bi_rds σ H Q h
  · rw [t] at co hv
    exact PE.imp (pe_callTy co hg hm hv ha hn hdb he hpl) fun σ H Q h => bi_rds σ H Q h
end
end LL
/-! == LL10 == -/
set_option Elab.async false
set_option linter.all false
set_option maxRecDepth 100000
set_option maxHeartbeats 4000000
/-! LL, part 10: a term of the little language says an expression of the text -/
namespace LL
open PySem PySem.Spec PyProof.Rows L2

/-! ### what is asked of the text -/
mutual
def D.same : D → D → Bool
  | .non, .non => true
  | .bl a, .bl b => a == b
  | .int a, .int b => a == b
  | .str a, .str b => decide (a = b)
  | .tup a, .tup b => D.sames a b
  | .lst a, .lst b => D.sames a b
  | .dct k a, .dct l b => decide (k = l) && D.sames a b
  | .ob a, .ob b => a == b
  | .scr a, .scr b => decide (a = b)
  | _, _ => false
def D.sames : List D → List D → Bool
  | [], [] => true
  | x :: xs, y :: ys => D.same x y && D.sames xs ys
  | _, _ => false
end
mutual
theorem D.same_eq : ∀ a b : D, D.same a b = true → a = b
  | .non, b, h => by cases b <;> first | rfl | cases h
  | .bl a, b, h => by
    cases b with
    | bl c => rw [D.same] at h; rw [beq_iff_eq.mp h]
    | _ => cases h
  | .int a, b, h => by
    cases b with
    | int c => rw [D.same] at h; rw [beq_iff_eq.mp h]
    | _ => cases h
  | .str a, b, h => by
    cases b with
    | str c => rw [D.same] at h; rw [of_decide_eq_true h]
    | _ => cases h
  | .tup a, b, h => by
    cases b with
    | tup c => rw [D.same] at h; rw [D.sames_eq a c h]
    | _ => cases h
  | .lst a, b, h => by
    cases b with
    | lst c => rw [D.same] at h; rw [D.sames_eq a c h]
    | _ => cases h
  | .dct k a, b, h => by
    cases b with
    | dct l c =>
      rw [D.same, Bool.and_eq_true] at h
      rw [of_decide_eq_true h.1, D.sames_eq a c h.2]
    | _ => cases h
  | .ob a, b, h => by
    cases b with
    | ob c => rw [D.same] at h; rw [beq_iff_eq.mp h]
    | _ => cases h
  | .scr a, b, h => by
    cases b with
    | scr c => rw [D.same] at h; rw [of_decide_eq_true h]
    | _ => cases h
theorem D.sames_eq : ∀ a b : List D, D.sames a b = true → a = b
  | [], b, h => by
    cases b with
    | nil => rfl
    | cons _ _ => cases h
  | x :: xs, b, h => by
    cases b with
    | nil => cases h
    | cons y ys =>
      rw [D.sames, Bool.and_eq_true] at h
      rw [D.same_eq x y h.1, D.sames_eq xs ys h.2]
end
/-- a table by numbers -/
def lkN {α : Type} : List (Nat × α) → Nat → Option α
  | [], _ => none
  | p :: r, n => bif Nat.beq p.1 n then some p.2 else lkN r n
theorem lkN_map {α β : Type} {g : α → β} {n : Nat} : ∀ l : List (Nat × α), lkN (l.map fun p => (p.1, g p.2)) n = (lkN l n).map g
  | [] => rfl
  | p :: r => by
    rw [List.map_cons, lkN, lkN]
    cases h : Nat.beq p.1 n
    · exact lkN_map r
    · rfl
theorem lkN_mem {α : Type} {n : Nat} {a : α} : ∀ {l : List (Nat × α)}, lkN l n = some a → (n, a) ∈ l
  | [], h => by cases h
  | p :: r, h => by
    rw [lkN] at h
    cases e : Nat.beq p.1 n with
    | true =>
      rw [e] at h
      cases h
      rw [← Nat.eq_of_beq_eq_true e]
      exact List.mem_cons_self ..
    | false =>
      rw [e] at h
      exact List.mem_cons_of_mem _ (lkN_mem h)
/-- the names that the text may use: its functions, its constants, the built-in names that it leaves as they are -/
structure Tab where
  fns : List (Nat × FnI)
  globs : List (Str × D)
  free : List Str
def seen (sc : Scope) (x : Str) : Bool := match sc.names.lookup x with
  | some .local | some .cell | some .free => true
  | _ => false
def setb (sc : Scope) (x : Str) : Bool := match sc.names.lookup x with
  | some .local | some .cell => true
  | _ => false
def glb (sc : Scope) (x : Str) : Bool := match sc.names.lookup x with
  | some .globalImplicit => true
  | _ => false
def eqN (a b : Str) : Bool := decide (a = b)
def hasN (N : List Str) (i : Nat) (x : Str) : Bool := match N[i]? with
  | some y => eqN y x
  | none => false
def chkC : D → Const → Bool
  | .int i, .int j => i == j
  | .bl a, .bool b => a == b
  | .non, .none => true
  | .str a, .str b => eqN a b
  | _, _ => false
def notStar : Expr → Bool
  | .Starred _ _ => false
  | _ => true
def notSet : Expr → Bool
  | .Set _ _ _ => false
  | _ => true
def notSlice : Expr → Bool
  | .Slice _ _ _ _ => false
  | _ => true
def isTupE : Expr → Bool
  | .Tuple _ _ _ => true
  | _ => false
def biN : Bi → Str
  | .len => "len" | .abs => "abs" | .int => "int" | .str => "str" | .sum => "sum" | .all => "all" | .any => "any" | .min => "min" | .max => "max" | .tuple => "tuple" | .list => "list" | .isi _ => "isinstance"
def tyN : Ty → Str
  | .int => "int" | .bool => "bool" | .str => "str" | .list => "list" | .tuple => "tuple"
def blt (T : Tab) (sc : Scope) (x : Str) : Bool := glb sc x && T.free.any (eqN x)
def chkTy (T : Tab) (sc : Scope) (t : Ty) : Expr → Bool
  | .Name x _ => eqN x (tyN t) && blt T sc x
  | _ => false
def chkTys (T : Tab) (sc : Scope) : List Ty → List Expr → Bool
  | [], [] => true
  | t :: ts, x :: xs => chkTy T sc t x && chkTys T sc ts xs
  | _, _ => false
def chkIsi (T : Tab) (sc : Scope) (ts : List Ty) : Expr → Bool
  | .Tuple xs _ _ => decide (0 < ts.length) && decide (ts.length ≤ 16) && chkTys T sc ts xs
  | x => match ts with
    | [t] => chkTy T sc t x
    | _ => false
def chkN (N : List Str) (sc : Scope) (i : Nat) : Expr → Bool
  | .Name x _ => hasN N i x && setb sc x
  | _ => false
def chkNs (N : List Str) (sc : Scope) : List Nat → List Expr → Bool
  | [], [] => true
  | i :: is, x :: xs => chkN N sc i x && chkNs N sc is xs
  | _, _ => false
def chkT (N : List Str) (sc : Scope) : Tg → Expr → Bool
  | .one i, x => chkN N sc i x
  | .many is, .Tuple xs _ _ => chkNs N sc is xs
  | _, _ => false
def ownP (N : List Str) (own : List Nat) : List (Str × Nat) := own.map fun i => (N[i]?.getD "", i)
def isiOf : Bi → Option (List Ty)
  | .isi ts => some ts
  | _ => none
def needT : LI → Bool
  | .zip _ _ => true
  | .enum _ => true
  | _ => false
/-- an attribute's base that is evaluated as it is -/
def plainBase : Expr → Bool
  | .Call (.Name _ _) [] [] _ => false
  | _ => true
/-- the pairs of a display: texts -/
def chkKV : List (Str × Str) → List (Option Expr) → List Expr → Bool
  | [], [], [] => true
  | (k, v) :: L, some (.Constant (.str k') _ _) :: ks, .Constant (.str v') _ _ :: vs => eqN k k' && eqN v v' && chkKV L ks vs
  | _, _, _ => false
def chkLast (k : Str) : List (Option Expr) → Bool
  | [some (.Constant (.str k') _ _)] => eqN k k'
  | _ => false
def chkLastV (k : Str) : List Expr → Bool
  | [.Constant (.str k') _ _] => eqN k k'
  | _ => false
mutual
def chk (T : Tab) (N : List Str) : LE → Scope → Expr → Bool
  | .v i, sc, x => match x with
    | .Name y _ => hasN N i y && seen sc y && !(y == ("__debug__" : Str)) && !(y == ("__classdict__" : Str))
    | _ => false
  | .c d, sc, x => match x with
    | .Constant k _ _ => chkC d k
    | _ => false
  | .g y d, sc, x => match x with
    | .Name z _ => eqN z y && glb sc y && !(y == ("__debug__" : Str)) && T.globs.any fun p => eqN p.1 y && D.same p.2 d
    | _ => false
  | .tup es, sc, x => match x with
    | .Tuple xs _ _ => chks T N es sc xs
    | _ => false
  | .lst es, sc, x => match x with
    | .List xs _ => chks T N es sc xs
    | _ => false
  | .op o a b, sc, x => match x with
    | .BinOp l p r _ => decide (p = opOf o) && chk T N a sc l && chk T N b sc r
    | _ => false
  | .cm o a b, sc, x => match x with
    | .Compare l [p] [r] _ => decide (p = cmOf o) && chk T N a sc l && chk T N b sc r && notSet r
    | _ => false
  | .chain o p a b c, sc, x => match x with
    | .Compare l [q, t] [m, r] _ => decide (q = cmOf o) && decide (t = cmOf p) && chk T N a sc l && chk T N b sc m && chk T N c sc r && notSet m && notSet r
    | _ => false
  | .not_ a, sc, x => match x with
    | .UnaryOp .Not y _ => chk T N a sc y
    | _ => false
  | .and_ a b, sc, x => match x with
    | .BoolOp .And (l :: r :: rest) p => chk T N a sc l && (match rest with
      | [] => chk T N b sc r
      | s :: rest => chk T N b sc (.BoolOp .And (r :: s :: rest) p))
    | _ => false
  | .or_ a b, sc, x => match x with
    | .BoolOp .Or (l :: r :: rest) p => chk T N a sc l && (match rest with
      | [] => chk T N b sc r
      | s :: rest => chk T N b sc (.BoolOp .Or (r :: s :: rest) p))
    | _ => false
  | .ite c a b, sc, x => match x with
    | .IfExp t l r _ => chk T N c sc t && chk T N a sc l && chk T N b sc r
    | _ => false
  | .neg a, sc, x => match x with
    | .UnaryOp .USub y _ => chk T N a sc y
    | _ => false
  | .ix a i, sc, x => match x with
    | .Subscript l r _ => chk T N a sc l && chk T N i sc r && notSlice r
    | _ => false
  | .sl a lo hi, sc, x => match x with
    | .Subscript l (.Slice p q none _) _ => chk T N a sc l && (match p with | none => isNop lo | some p => !isNop lo && chk T N lo sc p) && (match q with | none => isNop hi | some q => !isNop hi && chk T N hi sc q)
    | _ => false
  | .rev a, sc, x => match x with
    | .Subscript l (.Slice none none (some (.UnaryOp .USub (.Constant (.int 1) _ _) _)) _) _ => chk T N a sc l
    | _ => false
  | .call f es, sc, x => match x with
    | .Call (.Name y _) xs kws _ => (match lkN T.fns f with
        | some i => eqN y i.x && !(i.x == ("__debug__" : Str)) && (match kws with
          | [] => true
          | _ => i.kw && xs.isEmpty && decide (kws.map (·.arg) = i.ps.map some))
        | none => false) && glb sc y && (match kws with
          | [] => chks T N es sc xs
          | _ => chks T N es sc (kws.map (·.value)))
    | _ => false
  | .bi b es, sc, x => match x with
    | .Call (.Name y _) (x0 :: xs) [] _ => eqN y (biN b) && blt T sc y && (match isiOf b with
      | none => chks T N es sc (x0 :: xs)
      | some ts => (match xs with | [t] => chkIsi T sc ts t | _ => false) && chks T N es sc [x0])
    | _ => false
  | .dsp L k v, sc, x => match x with
    | .Dict ks vs _ => decide (L.length = 17) && decide (L.map (·.1) ++ [k]).Nodup && chkKV L (ks.take 17) (vs.take 17) && chkLast k (ks.drop 17) && chkLastV v (vs.drop 17)
    | _ => false
  | .smeth m a b, sc, x => match x with
    | .Call (.Attribute l y ap) [r] [] cp => eqN y (smN m) && ap.endLine == cp.line && chk T N a sc l && chk T N b sc r && notStar r && plainBase l
    | _ => false
  | .comp tg it cond elt own, sc, x => match x with
    | .ListComp z [⟨t, iter, ifs, 0⟩] s _ => blkC N sc s (ownP N own) && chkT N s tg t && chki T N it sc iter && (!needT it || isTupE t) && notSet iter && (match ifs with
        | [] => isNop cond
        | [c] => !isNop cond && chk T N cond s c
        | _ => false) && chk T N elt s z && tg.ixs.all fun i => own.any fun j => i == j
    | _ => false
  | .nop, _, _ => false
termination_by structural e => e
def chks (T : Tab) (N : List Str) : LEs → Scope → List Expr → Bool
  | .nil, _, xs => match xs with
    | [] => true
    | _ => false
  | .cons e es, sc, xs => match xs with
    | x :: xs => notStar x && chk T N e sc x && chks T N es sc xs
    | _ => false
termination_by structural es => es
def chki (T : Tab) (N : List Str) : LI → Scope → Expr → Bool
  | .itm e, sc, x => chk T N e sc x
  | .rng1 a, sc, x => match x with
    | .Call (.Name y _) [l] [] _ => eqN y "range" && blt T sc y && chk T N a sc l && notStar l
    | _ => false
  | .rng2 a b, sc, x => match x with
    | .Call (.Name y _) [l, r] [] _ => eqN y "range" && blt T sc y && chk T N a sc l && chk T N b sc r && notStar l && notStar r
    | _ => false
  | .zip a b, sc, x => match x with
    | .Call (.Name y _) [l, r] [] _ => eqN y "zip" && blt T sc y && chk T N a sc l && chk T N b sc r && notStar l && notStar r
    | _ => false
  | .enum _, _, _ => false
termination_by structural it => it
end
/-- what is new where it is a list -/
def okFr (T : Tab) : LE → Bool
  | .v _ => false
  | .g _ _ => false
  | .c _ => true
  | .ix _ _ => false
  | .and_ _ b => okFr T b
  | .or_ _ b => okFr T b
  | .ite _ a b => okFr T a && okFr T b
  | .call f _ => match lkN T.fns f with
    | some i => i.fr
    | none => false
  | _ => true

/-! ### small facts -/
theorem eqN_eq {a b : Str} (h : eqN a b = true) : a = b := of_decide_eq_true h
theorem hasN_eq {N : List Str} {i : Nat} {x : Str} (h : hasN N i x = true) : N[i]? = some x := by
  unfold hasN at h
  split at h
  · rename_i y e
    rw [e, eqN_eq h]
  · cases h
theorem stars_any {pos : Pos} {env : PySem.Env} : ∀ {xs : List Expr}, xs.all notStar = true → (backTo pos (starEach xs env)).any (·.1) = false
  | [], _ => rfl
  | x :: xs, h => by
    rw [List.all_cons, Bool.and_eq_true] at h
    have ih := stars_any (pos := pos) (env := env) h.2
    cases x <;> first | exact ih | exact absurd h.1 (by simp [notStar])
theorem star_cons {x : Expr} {xs : List Expr} {env : PySem.Env} (h : notStar x = true) : starEach (x :: xs) env = (false, eval x env) :: starEach xs env := by
  cases x <;> first | rfl | exact absurd h (by simp [notStar])
theorem plain_ix {b : Expr} (h : notSlice b = true) : PlainIx b := fun o i => by
  cases b <;> first | rfl | exact absurd h (by simp [notSlice])
theorem nomarks {op : CmpOp} {b : Expr} (h : notSet b = true) : behindInMarks op b = false := by
  cases b <;> first | rfl | exact absurd h (by simp [notSet])
theorem unfolded {e : Expr} {env : PySem.Env} (h : notSet e = true) (x : Value) : foldedSetIterable e env x = pure x := by
  cases e <;> first | rfl | exact absurd h (by simp [notSet])
theorem chks_stars {T : Tab} {N : List Str} : ∀ {es : LEs} {sc : Scope} {xs : List Expr}, chks T N es sc xs = true → xs.all notStar = true
  | .nil, sc, xs, h => by
    cases xs with
    | nil => rfl
    | cons _ _ => exact absurd (show false = true from h) (by decide)
  | .cons e es, sc, xs, h => by
    cases xs with
    | nil => exact absurd (show false = true from h) (by decide)
    | cons x xs =>
      rw [chks] at h
      simp only [Bool.and_eq_true] at h
      rw [List.all_cons, h.1.1, chks_stars h.2]
      rfl
theorem base_eq {o : Expr} {m : Str} {env : PySem.Env} (h : plainBase o = true) : attributeBase o m env (eval o env) = eval o env := by
  cases o with
  | Call f args kws p =>
    cases args with
    | cons _ _ => cases f <;> rfl
    | nil =>
      cases kws with
      | cons _ _ => cases f <;> rfl
      | nil => cases f <;> first | rfl | cases h
  | _ => rfl
/-- what a context must have -/
structure XOk (T : Tab) (N : List Str) (cad : Nat → Addr) (Φ : Fns) (X : Cx) : Prop where
  calm : X.calm = true
  nd : X.N.Nodup
  un : X.A.units + 64 < cLine
  N : X.N = N
  free : ∀ x ∈ T.free, X.mg x = none
  globs : ∀ p ∈ T.globs, ∃ u v, X.mg p.1 = some u ∧ RelV v u ∧ ∀ F ad, Rp (kp X) F ad v p.2
  fns : ∀ f i, lkN T.fns f = some i → FnX X cad (Φ f) i
/-- the scope of the text, and the one that the context has (a block's free names may be its def's cells) -/
structure ScOk (sc : Scope) (X : Cx) : Prop where
  loc : ∀ x, sc.names.lookup x = some .local → X.env.scope.names.lookup x = some .local
  cel : ∀ x, sc.names.lookup x = some .cell → X.env.scope.names.lookup x = some .cell ∧ X.fn x = true
  fre : ∀ x, sc.names.lookup x = some .free → X.env.scope.names.lookup x = some .free ∨ X.env.scope.names.lookup x = some .cell
  glo : ∀ x, sc.names.lookup x = some .globalImplicit → X.env.scope.names.lookup x = some .globalImplicit
section
variable {sc : Scope} {X : Cx} {x : Str}
theorem ScOk.self (h : X.env.scope = sc) (hf : ∀ x, X.fn x = true) : ScOk sc X := ⟨fun x e => by rw [h]; exact e, fun x e => ⟨by rw [h]; exact e, hf x⟩, fun x e => .inl (by rw [h]; exact e), fun x e => by rw [h]; exact e⟩
theorem ScOk.vis (k : ScOk sc X) (h : seen sc x = true) : Vis X.env.scope x := by
  unfold seen at h
  split at h
  · rename_i e; exact .inl (k.loc x e)
  · rename_i e; exact .inr (.inl (k.cel x e).1)
  · rename_i e; exact .inr ((k.fre x e).symm)
  · cases h
theorem ScOk.set (k : ScOk sc X) (h : setb sc x = true) : Loc X.env.scope x ∧ (X.fn x = true ∨ X.env.scope.names.lookup x = some .local) := by
  unfold setb at h
  split at h
  · rename_i e; exact ⟨.inl (k.loc x e), .inr (k.loc x e)⟩
  · rename_i e; exact ⟨.inr (k.cel x e).1, .inl (k.cel x e).2⟩
  · cases h
theorem ScOk.gl (k : ScOk sc X) (h : glb sc x = true) : Gl X x := by
  unfold glb at h
  split at h
  · rename_i e; exact k.glo x e
  · cases h
theorem lookup_map_kind {f : Str → NameKind → NameKind} : ∀ {names : List (Str × NameKind)} {x : Str} {k : NameKind}, names.lookup x = some k → (names.map fun p => (p.1, f p.1 p.2)).lookup x = some (f x k)
  | [], _, _, h => by simp at h
  | (n, j) :: r, x, k, h => by
    rw [List.map_cons, List.lookup_cons]
    rw [List.lookup_cons] at h
    cases hx : x == n with
    | true =>
      simp only [hx] at h ⊢
      cases h
      rw [beq_iff_eq.mp hx]
    | false =>
      simp only [hx] at h ⊢
      exact lookup_map_kind h
theorem relabel_lookup {env : PySem.Env} {scope : Scope} {x : Str} {k : NameKind} (h : scope.names.lookup x = some k) : (relabel scope env).names.lookup x = some (if (k == NameKind.free && env.scope.kind == ScopeKind.function && env.kindOf x == some NameKind.cell) then NameKind.cell else k) := by
  have e : (relabel scope env).names = scope.names.map fun p => (p.1, if (p.2 == NameKind.free && env.scope.kind == ScopeKind.function && env.kindOf p.1 == some NameKind.cell) then NameKind.cell else p.2) := by
    show (scope.names.map fun (n, k) => if (k == NameKind.free && env.scope.kind == ScopeKind.function && env.kindOf n == some NameKind.cell) then (n, NameKind.cell) else (n, k)) = _
    refine List.map_congr_left fun p _ => ?_
    obtain ⟨n, k⟩ := p
    show (if _ then _ else _) = (n, if _ then _ else _)
    split <;> rfl
  rw [e]
  exact lookup_map_kind (f := fun n k => if (k == NameKind.free && env.scope.kind == ScopeKind.function && env.kindOf n == some NameKind.cell) then NameKind.cell else k) h
theorem ScOk.blk (s : Shared) (H : Hp) (scope : Scope) (C : Addr) (cl : List (Str × Addr)) (fp : List Addr) : ScOk scope (X.blk s H scope (compEnvC scope cl C X.env) fp) := by
  refine ⟨fun x e => ?_, fun x e => ⟨?_, ?_⟩, fun x e => ?_, fun x e => ?_⟩
  · exact (relabel_lookup e).trans (by rfl)
  · exact (relabel_lookup e).trans (by rfl)
  · show (scope.names.lookup x == some .cell) = true
    rw [e]; rfl
  · have := relabel_lookup (env := X.env) e
    show (relabel scope X.env).names.lookup x = _ ∨ (relabel scope X.env).names.lookup x = _
    rw [this]
    split
    · exact .inr rfl
    · exact .inl rfl
  · exact (relabel_lookup e).trans (by rfl)
theorem ScOk.blkOk {N : List Str} {scope : Scope} {own : List (Str × Nat)} (k : ScOk sc X) (h : BlkOk N sc scope own) : BlkOk N X.env.scope scope own := ⟨h.kind, h.uniq, h.ix, fun y hy e => by
  rcases h.free y hy e with q | q
  · exact .inl (k.cel _ q).1
  · exact (k.fre _ q).symm, h.own⟩
end
theorem XOk.blk {T : Tab} {N : List Str} {cad : Nat → Addr} {Φ : Fns} {X : Cx} (o : XOk T N cad Φ X) (s : Shared) (H : Hp) (scope : Scope) (C : Addr) (cl : List (Str × Addr)) (fp : List Addr) : XOk T N cad Φ (X.blk s H scope (compEnvC scope cl C X.env) fp) :=
  ⟨o.calm, o.nd, o.un, o.N, o.free, o.globs, fun f i h => ⟨(o.fns f i h).ex⟩⟩
theorem biN_boot : ∀ b : Bi, bootBuiltins (biN b) = some (biV b) := by
  intro b
  cases b <;> with_unfolding_all rfl
theorem biN_name (b : Bi) : biN b ≠ "__name__" ∧ (biN b == ("__debug__" : Str)) = false := by
  cases b <;> (dsimp only [biN]; exact ⟨by decide, by decide⟩)
theorem tyN_boot : ∀ t : Ty, bootBuiltins (tyN t) = some (.type (tyS t)) := by
  intro t
  cases t <;> with_unfolding_all rfl
theorem tyN_name (t : Ty) : tyN t ≠ "__name__" ∧ (tyN t == ("__debug__" : Str)) = false := by
  cases t <;> exact ⟨by decide, by decide⟩
end LL
/-! == LL11 == -/
set_option Elab.async false
set_option linter.all false
set_option maxRecDepth 100000
set_option maxHeartbeats 4000000
/-! LL, part 11: what chk lets by is sound -/
namespace LL
open PySem PySem.Spec PyProof.Rows L2

structure Snd (T : Tab) (X : Cx) (cad : Nat → Addr) (Wx : WX) (Φ : Fns) (e : LE) (x : Expr) : Prop where
  pe : ∀ fr, (fr = true → okFr T e = true) → PE X x (rdE (kp X) cad Wx Φ fr e)
  pt : PT X x (tB (rdE (kp X) cad Wx Φ false e))
  pw : ∀ op vs p, x = .BoolOp op vs p → PW X x (tB (rdE (kp X) cad Wx Φ false e))
section
variable {T : Tab} {X : Cx} {cad : Nat → Addr} {Wx : WX} {Φ : Fns} {e : LE} {x : Expr} {N : List Str} {sc : Scope}
theorem Snd.val (s : Snd T X cad Wx Φ e x) : PE X x (rdE (kp X) cad Wx Φ false e) := s.pe false fun h => nomatch h
/-- an expression whose test is its value's -/
theorem Snd.plain (h : ∀ fr, (fr = true → okFr T e = true) → PE X x (rdE (kp X) cad Wx Φ fr e)) (he : ∀ whole, isTrue x X.env whole = (do let v ← whole; standAt x.pos; holding [v] (truthy v))) (hb : ∀ op vs p, x ≠ .BoolOp op vs p) : Snd T X cad Wx Φ e x :=
  ⟨h, pt_val (h false fun h => nomatch h) he, fun op vs p q => absurd q (hb op vs p)⟩
theorem Snd.noW (h : ∀ fr, (fr = true → okFr T e = true) → PE X x (rdE (kp X) cad Wx Φ fr e)) (ht : PT X x (tB (rdE (kp X) cad Wx Φ false e))) (hb : ∀ op vs p, x ≠ .BoolOp op vs p) : Snd T X cad Wx Φ e x :=
  ⟨h, ht, fun op vs p q => absurd q (hb op vs p)⟩
theorem no_fr {fr : Bool} (h : fr = true → false = true) : fr = false := by
  cases fr with
  | false => rfl
  | true => exact absurd (h rfl) (by decide)
theorem rp_const {K : KP} {d : D} {k : Const} {j : Nat} {pos : Pos} (h : chkC d k = true) : ∃ v, PE X (.Constant k j pos) (tC v) ∧ ∀ F ad, Rp K F ad v d := by
  unfold chkC at h
  split at h
  · rw [beq_iff_eq.mp h]; exact ⟨_, pe_int, fun _ _ => .int _⟩
  · rw [beq_iff_eq.mp h]; exact ⟨_, pe_bl, fun _ _ => .bl _⟩
  · exact ⟨_, pe_non, fun _ _ => .non⟩
  · rw [eqN_eq h]; exact ⟨_, pe_str, fun _ _ => .str _⟩
  · cases h
theorem free_of (o : XOk T N cad Φ X) (k : ScOk sc X) {x : Str} (h : blt T sc x = true) : Gl X x ∧ X.mg x = none := by
  unfold blt at h
  rw [Bool.and_eq_true, List.any_eq_true] at h
  obtain ⟨h1, y, h2, h3⟩ := h
  rw [eqN_eq h3]
  rw [eqN_eq h3] at h1
  exact ⟨k.gl h1, o.free y h2⟩
theorem any_elim {α : Type} {p : α → Bool} {l : List α} (h : l.any p = true) : ∃ a ∈ l, p a = true := List.any_eq_true.mp h
/-! isinstance -/
theorem ty_name (o : XOk T N cad Φ X) (k : ScOk sc X) {t : Ty} {x : Expr} (h : chkTy T sc t x = true) : PE X x (tC (.ty (tyS t))) ∧ notStar x = true := by
  unfold chkTy at h
  split at h
  · rw [Bool.and_eq_true] at h
    obtain ⟨h1, h2⟩ := h
    obtain ⟨g, m⟩ := free_of o k h2
    rw [eqN_eq h1] at g m ⊢
    exact ⟨pe_bltn (v := .ty (tyS t)) g m (tyN_boot t) rfl (tyN_name t).1 (tyN_name t).2, rfl⟩
  · cases h
def tyVs (ts : List Ty) : List V := ts.map fun t => .ty (tyS t)
def tTys : List Ty → TA
  | [] => tNil
  | t :: ts => tCons (tC (.ty (tyS t))) (tTys ts)
theorem tTys_run : ∀ (ts : List Ty) (σ : L2.St) (H : Hp) (Q : List V → Hp → Prop), Q (tyVs ts) H → tTys ts σ H Q
  | [], _, _, _, h => h
  | t :: ts, σ, H, Q, h => tTys_run ts σ H (fun xs H2 => Q (V.ty (tyS t) :: xs) H2) h
theorem ty_names (o : XOk T N cad Φ X) (k : ScOk sc X) : ∀ {ts : List Ty} {xs : List Expr}, chkTys T sc ts xs = true → PA X xs (tTys ts)
  | [], [], _ => pa_nil
  | t :: ts, x :: xs, h => by
    rw [chkTys, Bool.and_eq_true] at h
    obtain ⟨p, s⟩ := ty_name o k h.1
    exact pa_cons p (ty_names o k h.2) (star_cons s)
  | [], _ :: _, h => by cases h
  | _ :: _, [], h => by cases h
theorem clsV_tys : ∀ ts : List Ty, Paired ClsV (tyVs ts) (ts.map fun t => Value.type (tyS t))
  | [] => .nil
  | t :: ts => .cons (.ty _) (clsV_tys ts)
theorem isTys_tyX {F H : Hp} {ad : Ads} {v : V} {d : D} {b : Bool} (e : Ex F H) (r : Rp (kp X) F ad v d) : ∀ {ts : List Ty}, ts ≠ [] → isTys d ts = some b → TyX X.K H v (.type (dTy d))
  | [], h, _ => absurd rfl h
  | t :: ts, _, h => by
    unfold isTys at h
    cases q : isTy d t with
    | none => rw [q] at h; cases h
    | some c => exact tyX_of q e r
theorem kit_one {K : PySem.W.Frag} {t : Value} {c : Value} {b : Bool} (h : PySem.W.kitAny K t [c] = some b) : PySem.W.kitOne K t c = some b := by
  unfold PySem.W.kitAny at h
  revert h
  cases PySem.W.kitOne K t c with
  | none => intro h; first | exact h | cases h
  | some z => cases z <;> intro h <;> first | exact h | (unfold PySem.W.kitAny at h; exact h) | cases h
theorem s_isi (o : XOk T N cad Φ X) (k : ScOk sc X) {ea et : Expr} {a : LE} {ts : List Ty} {p pos : Pos} {fr : Bool} {y : Str} (hy : eqN y (biN (.isi ts)) = true) (hb : blt T sc y = true) (ha : PE X ea (rdE (kp X) cad Wx Φ false a)) (hs : notStar ea = true) (ht : chkIsi T sc ts et = true) :
    PE X (.Call (.Name y p) [ea, et] [] pos) (rdE (kp X) cad Wx Φ fr (.bi (.isi ts) (.cons a .nil))) := by
  obtain ⟨g, m⟩ := free_of o k hb
  rw [eqN_eq hy] at g m ⊢
  have core : ∀ σ H Q, rdE (kp X) cad Wx Φ fr (.bi (.isi ts) (.cons a .nil)) σ H Q → rdE (kp X) cad Wx Φ false a σ H fun v H1 => ∃ d b, isTys d ts = some b ∧ (∃ F ad, Ex F H1 ∧ Rp (kp X) F ad v d) ∧ ∀ H', (∃ p cs, H1 p = none ∧ H' = upd H1 p (.tup cs)) ∨ H' = H1 → Q (.bl b) H' := fun σ H Q ⟨F, Rf, ad, env, w, s, n, q⟩ => by
    refine ⟨F, Rf, ad, env, w, s, n, ?_⟩
    rw [ev, evs] at q
    cases e1 : ev Φ env a w with
    | er _ _ => rw [e1] at q; exact q
    | bad => rw [e1] at q; exact q
    | ok x =>
      obtain ⟨d, w1⟩ := x
      rw [e1] at q
      intro v H1 F1 ad1 x1 l1 s1 r1
      have q : PostE (kp X) cad Rf (WE Wx σ) fr F ad (R.of w1 ((isTys d ts).map .bl)) Q := by
        have q : PostE (kp X) cad Rf (WE Wx σ) fr F ad (((evs Φ env .nil w1).bind fun x => R.ok (d :: x.1, x.2)).bind fun x => R.of x.2 (biD (.isi ts) x.1)) Q := q
        rw [evs] at q
        exact q
      obtain ⟨z, ez, q⟩ := PostE.of_some q
      obtain ⟨b, eb, rfl⟩ := ofm ez
      refine ⟨d, b, eb, ⟨F1, ad1, s1.fx, r1.rp⟩, fun H' h => ?_⟩
      rcases h with ⟨p, cs, hp, rfl⟩ | rfl
      · exact q _ _ F1 ad1 x1 l1 (s1.lay hp) (Res.flat flat_bl (.bl b))
      · exact q _ _ F1 ad1 x1 l1 s1 (Res.flat flat_bl (.bl b))
  have hv := biN_boot (.isi ts)
  have hn := biN_name (.isi ts)
  unfold chkIsi at ht
  split at ht
  · rename_i xs kk tp
    simp only [Bool.and_eq_true, decide_eq_true_eq] at ht
    obtain ⟨⟨h0, h16⟩, ht⟩ := ht
    have pa : PA X [ea, .Tuple xs kk tp] (tCons (rdE (kp X) cad Wx Φ false a) (tCons (tTup (tTys ts)) tNil)) := pa_cons ha (pa_cons (pe_tup (ty_names o k ht)) pa_nil) (star_cons hs)
    refine PE.imp (pe_callB call_isiT g m hv pa hn.1 hn.2 (star_cons hs) rfl) fun σ H Q h => ?_
    refine rd_imp (core σ H Q h) fun v H1 ⟨d, b, eb, ⟨F, ad, ex, r⟩, q⟩ => ?_
    refine tTys_run ts σ H1 _ ⟨by rw [sizeLine_eq]; simp [tyVs]; omega, fun p hp => ?_⟩
    have nts : ts ≠ [] := by rintro rfl; exact absurd h0 (by simp)
    exact ⟨v, p, tyVs ts, .type (dTy d), _, b, rfl, upd_same, clsV_tys ts, isTys_tyX (ex.trans (Ex.new hp)) r nts eb, isTys_kit eb, q _ (.inl ⟨p, _, hp, rfl⟩)⟩
  · split at ht
    · rename_i t
      obtain ⟨pt, _⟩ := ty_name o k ht
      have pa : PA X [ea, et] (tCons (rdE (kp X) cad Wx Φ false a) (tCons (tC (.ty (tyS t))) tNil)) := pa_cons ha (pa_cons pt pa_nil (star_cons (ty_name o k ht).2)) (star_cons hs)
      refine PE.imp (pe_callB call_isi g m hv pa hn.1 hn.2 (star_cons hs) (stars_any (by simp [(ty_name o k ht).2]))) fun σ H Q h => ?_
      refine rd_imp (core σ H Q h) fun v H1 ⟨d, b, eb, ⟨F, ad, ex, r⟩, q⟩ => ?_
      exact ⟨v, .ty (tyS t), .type (dTy d), .type (tyS t), b, rfl, .ty _, isTys_tyX ex r (by simp) eb, kit_one (isTys_kit eb), q _ (.inr rfl)⟩
    · cases ht

/-! targets -/
theorem s_name (o : XOk T N cad Φ X) (k : ScOk sc X) {i : Nat} {x : Expr} (h : chkN N sc i x = true) : PG X x (gName i) := by
  unfold chkN at h
  split at h
  · rw [Bool.and_eq_true] at h
    obtain ⟨l, f⟩ := k.set h.2
    exact pg_name o.nd (by rw [o.N]; exact hasN_eq h.1) l f
  · cases h
theorem s_names (o : XOk T N cad Φ X) (k : ScOk sc X) : ∀ {is : List Nat} {xs : List Expr}, chkNs N sc is xs = true → PGs X xs (gNames is) ∧ (assignEach xs X.env).length = is.length ∧ (assignEach xs X.env).findIdx? (·.1) = none
  | [], [], _ => ⟨pgs_nil, rfl, rfl⟩
  | i :: is, x :: xs, h => by
    rw [chkNs, Bool.and_eq_true] at h
    obtain ⟨a, b, c⟩ := s_names o k h.2
    have p := s_name o k h.1
    have hx : ∃ y q, x = .Name y q := by
      have h1 := h.1
      unfold chkN at h1
      split at h1
      · exact ⟨_, _, rfl⟩
      · cases h1
    obtain ⟨y, q, rfl⟩ := hx
    refine ⟨pgs_cons p a rfl, ?_, ?_⟩
    · show (assignEach xs X.env).length + 1 = _
      rw [b]; rfl
    · show List.findIdx? (·.1) ((false, assign (.Name y q) X.env) :: assignEach xs X.env) = none
      rw [List.findIdx?_cons]
      simp [c]
  | [], _ :: _, h => by cases h
  | _ :: _, [], h => by cases h
theorem s_tg (o : XOk T N cad Φ X) (k : ScOk sc X) {t : Tg} {x : Expr} (h : chkT N sc t x = true) : PG X x (gT X.K t) := by
  unfold chkT at h
  split at h
  · exact s_name o k h
  · obtain ⟨a, b, c⟩ := s_names o k h
    exact pg_tup o.calm a b c
  · cases h
end
end LL
/-! == LL12 == -/
set_option Elab.async false
set_option linter.all false
set_option maxRecDepth 100000
set_option maxHeartbeats 4000000
/-! LL, part 12: the soundness of chk -/
namespace LL
open PySem PySem.Spec PyProof.Rows L2

theorem takesN {X : Cx} : Takes X W0 := fun _ _ x => by
  obtain ⟨_, _, _, _, _, _, _, _, _, _, _, _, _, _, _, _, z⟩ := x
  exact z.elim
theorem ownP_map (N : List Str) (own : List Nat) : (ownP N own).map (·.2) = own := by
  unfold ownP
  rw [List.map_map]
  exact List.map_id _
theorem isTup_of {e : Expr} (h : isTupE e = true) : ∃ xs k p, e = .Tuple xs k p := by
  cases e <;> first | exact ⟨_, _, _, rfl⟩ | exact absurd h (by simp [isTupE])
theorem kv_of : ∀ {L : List (Str × Str)} {ks : List (Option Expr)} {vs : List Expr}, chkKV L ks vs = true → TxtKV ks vs L
  | [], ks, vs, h => by
    cases ks with
    | nil =>
      cases vs with
      | nil => exact .nil
      | cons _ _ => cases h
    | cons _ _ => cases vs <;> cases h
  | (k, v) :: L, ks, vs, h => by
    unfold chkKV at h
    split at h
    · rename_i h'; cases h'
    · rename_i heq
      cases heq
      simp only [Bool.and_eq_true] at h
      have a1 := eqN_eq h.1.1
      have a2 := eqN_eq h.1.2
      subst a1 a2
      exact .cons (kv_of h.2)
    · cases h
mutual
theorem snd {T : Tab} {N : List Str} {cad : Nat → Addr} {Φ : Fns} : ∀ (e : LE) (sc : Scope) (x : Expr) (X : Cx) (Wx : WX), XOk T N cad Φ X → ScOk sc X → Takes X Wx → chk T N e sc x = true → Snd T X cad Wx Φ e x
  | .v i, sc, x, X, Wx, o, k, tk, h => by
    rw [chk.eq_def] at h; dsimp only at h
    split at h
    · simp only [Bool.and_eq_true, Bool.not_eq_true'] at h
      obtain ⟨⟨⟨h1, h2⟩, h3⟩, h4⟩ := h
      refine Snd.plain (fun fr hf => ?_) (fun _ => rfl) (fun _ _ _ q => nomatch q)
      obtain rfl := no_fr hf
      exact s_v (by rw [o.N]; exact hasN_eq h1) (k.vis h2) h3 h4
    · cases h
  | .c d, sc, x, X, Wx, o, k, tk, h => by
    rw [chk.eq_def] at h; dsimp only at h
    split at h
    · rename_i kk jj pp
      obtain ⟨v, p, r⟩ := rp_const (X := X) (K := kp X) (j := jj) (pos := pp) h
      have hd : ∀ ds, d ≠ .lst ds := fun ds e => by subst e; cases h
      refine Snd.plain (fun fr _ => ?_) (fun _ => rfl) (fun _ _ _ q => nomatch q)
      exact PE.imp p fun σ H Q ⟨F, Rf, ad, env, w, s, n, q⟩ => PostE.here q s (Res.flat hd (r F ad))
    · cases h
  | .g y d, sc, x, X, Wx, o, k, tk, h => by
    rw [chk.eq_def] at h; dsimp only at h
    split at h
    · simp only [Bool.and_eq_true, Bool.not_eq_true'] at h
      obtain ⟨⟨⟨h1, h2⟩, h3⟩, h4⟩ := h
      obtain ⟨q, hq, h5⟩ := any_elim h4
      rw [Bool.and_eq_true] at h5
      obtain ⟨u, v, m, r, rp⟩ := o.globs q hq
      rw [eqN_eq h5.1] at m
      rw [D.same_eq _ _ h5.2] at rp
      rw [eqN_eq h1]
      refine Snd.plain (fun fr hf => ?_) (fun _ => rfl) (fun _ _ _ q => nomatch q)
      obtain rfl := no_fr hf
      exact s_g (pe_glob (k.gl h2) m r h3) rp
    · cases h
  | .tup es, sc, x, X, Wx, o, k, tk, h => by
    rw [chk.eq_def] at h; dsimp only at h
    split at h
    · exact Snd.plain (fun fr hf => s_tup (snds es sc _ X Wx o k tk h)) (fun _ => rfl) (fun _ _ _ q => nomatch q)
    · cases h
  | .lst es, sc, x, X, Wx, o, k, tk, h => by
    rw [chk.eq_def] at h; dsimp only at h
    split at h
    · exact Snd.plain (fun fr hf => s_lst (snds es sc _ X Wx o k tk h)) (fun _ => rfl) (fun _ _ _ q => nomatch q)
    · cases h
  | .op p a b, sc, x, X, Wx, o, k, tk, h => by
    rw [chk.eq_def] at h; dsimp only at h
    split at h
    · simp only [Bool.and_eq_true, decide_eq_true_eq] at h
      obtain ⟨⟨rfl, h1⟩, h2⟩ := h
      exact Snd.plain (fun fr hf => s_op p (snd a sc _ X Wx o k tk h1).val (snd b sc _ X Wx o k tk h2).val) (fun _ => rfl) (fun _ _ _ q => nomatch q)
    · cases h
  | .cm p a b, sc, x, X, Wx, o, k, tk, h => by
    rw [chk.eq_def] at h; dsimp only at h
    split at h
    · simp only [Bool.and_eq_true, decide_eq_true_eq] at h
      obtain ⟨⟨⟨rfl, h1⟩, h2⟩, h3⟩ := h
      have ha := (snd a sc _ X Wx o k tk h1).val
      have hb := (snd b sc _ X Wx o k tk h2).val
      exact Snd.noW (fun fr hf => s_cm o.un p ha hb (nomarks h3)) (s_cmT o.un p ha hb (nomarks h3)) (fun _ _ _ q => nomatch q)
    · cases h
  | .chain p q a b c, sc, x, X, Wx, o, k, tk, h => by
    rw [chk.eq_def] at h; dsimp only at h
    split at h
    · simp only [Bool.and_eq_true, decide_eq_true_eq] at h
      obtain ⟨⟨⟨⟨⟨⟨rfl, rfl⟩, h1⟩, h2⟩, h3⟩, h4⟩, h5⟩ := h
      have ha := (snd a sc _ X Wx o k tk h1).val
      have hb := (snd b sc _ X Wx o k tk h2).val
      have hc := (snd c sc _ X Wx o k tk h3).val
      have hm : ∀ m r, notSet r = true → lastMarks [cmOf p, cmOf q] [m, r] = false := fun m r h => nomarks h
      exact Snd.noW (fun fr hf => s_chain o.un p q ha hb hc (hm _ _ h5)) (s_chainT o.un p q ha hb hc (hm _ _ h5)) (fun _ _ _ q => nomatch q)
    · cases h
  | .not_ a, sc, x, X, Wx, o, k, tk, h => by
    rw [chk.eq_def] at h; dsimp only at h
    split at h
    · have ha := snd a sc _ X Wx o k tk h
      exact Snd.noW (fun fr hf => s_not ha.val) (s_notT ha.pt) (fun _ _ _ q => nomatch q)
    · cases h
  | .and_ a b, sc, x, X, Wx, o, k, tk, h => by
    rw [chk.eq_def] at h; dsimp only at h
    split at h
    · rename_i l r rest p
      rw [Bool.and_eq_true] at h
      obtain ⟨h1, h2⟩ := h
      have ha := snd a sc _ X Wx o k tk h1
      cases rest with
      | nil =>
        have hb := snd b sc _ X Wx o k tk h2
        have w := s_andT (pos := p) (rest := []) ha.pt (pw_and1 hb.pt)
        exact ⟨fun fr hf => s_and ha.val (pe_one (hb.pe fr hf)), w.pt, fun _ _ _ e => by cases e; exact w⟩
      | cons s rest =>
        have hb := snd b sc _ X Wx o k tk h2
        have w := s_andT (pos := p) ha.pt (hb.pw _ _ _ rfl)
        exact ⟨fun fr hf => s_and ha.val (hb.pe fr hf), w.pt, fun _ _ _ e => by cases e; exact w⟩
    · cases h
  | .or_ a b, sc, x, X, Wx, o, k, tk, h => by
    rw [chk.eq_def] at h; dsimp only at h
    split at h
    · rename_i l r rest p
      rw [Bool.and_eq_true] at h
      obtain ⟨h1, h2⟩ := h
      have ha := snd a sc _ X Wx o k tk h1
      cases rest with
      | nil =>
        have hb := snd b sc _ X Wx o k tk h2
        have w := s_orT (pos := p) (rest := []) ha.pt (pw_or1 hb.pt)
        exact ⟨fun fr hf => s_or ha.val (pe_one (hb.pe fr hf)), w.pt, fun _ _ _ e => by cases e; exact w⟩
      | cons s rest =>
        have hb := snd b sc _ X Wx o k tk h2
        have w := s_orT (pos := p) ha.pt (hb.pw _ _ _ rfl)
        exact ⟨fun fr hf => s_or ha.val (hb.pe fr hf), w.pt, fun _ _ _ e => by cases e; exact w⟩
    · cases h
  | .ite c a b, sc, x, X, Wx, o, k, tk, h => by
    rw [chk.eq_def] at h; dsimp only at h
    split at h
    · simp only [Bool.and_eq_true] at h
      obtain ⟨⟨h1, h2⟩, h3⟩ := h
      have hc := snd c sc _ X Wx o k tk h1
      have ha := snd a sc _ X Wx o k tk h2
      have hb := snd b sc _ X Wx o k tk h3
      refine Snd.noW (fun fr hf => s_ite hc.pt (ha.pe fr fun e => ?_) (hb.pe fr fun e => ?_)) (s_iteT hc.pt ha.pt hb.pt) (fun _ _ _ q => nomatch q)
      · have := hf e; rw [okFr, Bool.and_eq_true] at this; exact this.1
      · have := hf e; rw [okFr, Bool.and_eq_true] at this; exact this.2
    · cases h
  | .neg a, sc, x, X, Wx, o, k, tk, h => by
    rw [chk.eq_def] at h; dsimp only at h
    split at h
    · exact Snd.plain (fun fr hf => s_neg (snd a sc _ X Wx o k tk h).val) (fun _ => rfl) (fun _ _ _ q => nomatch q)
    · cases h
  | .ix a i, sc, x, X, Wx, o, k, tk, h => by
    rw [chk.eq_def] at h; dsimp only at h
    split at h
    · simp only [Bool.and_eq_true] at h
      obtain ⟨⟨h1, h2⟩, h3⟩ := h
      refine Snd.plain (fun fr hf => ?_) (fun _ => rfl) (fun _ _ _ q => nomatch q)
      obtain rfl := no_fr hf
      exact s_ix o.un (snd a sc _ X Wx o k tk h1).val (snd i sc _ X Wx o k tk h2).val (plain_ix h3)
    · cases h
  | .sl a lo hi, sc, x, X, Wx, o, k, tk, h => by
    rw [chk.eq_def] at h; dsimp only at h
    split at h
    · rename_i l p q p2 pos
      simp only [Bool.and_eq_true] at h
      obtain ⟨⟨h1, h2⟩, h3⟩ := h
      refine Snd.plain (fun fr hf => s_sl (snd a sc _ X Wx o k tk h1).val ?_ ?_) (fun _ => rfl) (fun _ _ _ q => nomatch q)
      · cases p with
        | none => exact .inl ⟨rfl, h2⟩
        | some p =>
          simp only [Bool.and_eq_true, Bool.not_eq_true'] at h2
          exact .inr ⟨p, rfl, h2.1, (snd lo sc _ X Wx o k tk h2.2).val⟩
      · cases q with
        | none => exact .inl ⟨rfl, h3⟩
        | some p =>
          simp only [Bool.and_eq_true, Bool.not_eq_true'] at h3
          exact .inr ⟨p, rfl, h3.1, (snd hi sc _ X Wx o k tk h3.2).val⟩
    · cases h
  | .rev a, sc, x, X, Wx, o, k, tk, h => by
    rw [chk.eq_def] at h; dsimp only at h
    split at h
    · exact Snd.plain (fun fr hf => s_rev (snd a sc _ X Wx o k tk h).val) (fun _ => rfl) (fun _ _ _ q => nomatch q)
    · cases h
  | .call f es, sc, x, X, Wx, o, k, tk, h => by
    rw [chk.eq_def] at h; dsimp only at h
    split at h
    · rename_i y p xs kws pos
      simp only [Bool.and_eq_true] at h
      obtain ⟨⟨h1, h2⟩, h3⟩ := h
      cases ei : lkN T.fns f with
      | none => rw [ei] at h1; cases h1
      | some i =>
        rw [ei] at h1
        simp only [Bool.and_eq_true, Bool.not_eq_true'] at h1
        obtain ⟨⟨h4, h5⟩, h6⟩ := h1
        have e := eqN_eq h4
        subst e
        have fx := o.fns f i ei
        have g := k.gl h2
        have key : PE X (.Call (.Name i.x p) xs kws pos) (rdE (kp X) cad Wx Φ i.fr (.call f es)) := by
          cases kws with
          | nil =>
            have h3 : chks T N es sc xs = true := h3
            have ha := snds es sc xs X Wx o k tk h3
            cases xs with
            | nil =>
              cases es with
              | nil => exact s_call0 fx tk g h5
              | cons _ _ => exact absurd (show false = true from h3) (by decide)
            | cons x xs =>
              have st := chks_stars h3
              rw [List.all_cons, Bool.and_eq_true] at st
              exact s_call fx tk g ha h5 (star_cons st.1) (stars_any st.2)
          | cons kw kws =>
            have h3 : chks T N es sc ((kw :: kws).map (·.value)) = true := h3
            simp only [Bool.and_eq_true, decide_eq_true_eq, List.isEmpty_iff] at h6
            obtain ⟨⟨h7, rfl⟩, h9⟩ := h6
            exact s_callK fx h7 tk g (sndk es sc (kw :: kws) X Wx o k tk h3) h5 h9
        refine Snd.plain (fun fr hf => ?_) (fun _ => rfl) (fun _ _ _ q => nomatch q)
        have hfr : fr = true → i.fr = true := fun e => by have := hf e; rw [okFr, ei] at this; exact this
        cases hi : i.fr with
        | true =>
          rw [hi] at key
          cases fr with
          | true => exact key
          | false => exact rdE_frozen key
        | false =>
          rw [hi] at key
          cases fr with
          | true => exact absurd (hfr rfl) (by rw [hi]; decide)
          | false => exact key
    · cases h
  | .dsp L k' v, sc, x, X, Wx, o, k, tk, h => by
    rw [chk.eq_def] at h; dsimp only at h
    split at h
    · rename_i ks vs pos
      simp only [Bool.and_eq_true, decide_eq_true_eq] at h
      obtain ⟨⟨⟨⟨h1, h2⟩, h3⟩, h4⟩, h5⟩ := h
      have t := kv_of h3
      unfold chkLast at h4
      unfold chkLastV at h5
      split at h4
      · split at h5
        · rename_i e1 _ _ _ _ e2
          have a1 := eqN_eq h4
          have a2 := eqN_eq h5
          subst a1 a2
          have ek := List.take_append_drop 17 ks
          have ev := List.take_append_drop 17 vs
          rw [e1] at ek
          rw [e2] at ev
          rw [← ek, ← ev]
          exact Snd.plain (fun fr hf => s_dsp t h1 h2) (fun _ => rfl) (fun _ _ _ q => nomatch q)
        · cases h5
      · cases h4
    · cases h
  | .smeth m a b, sc, x, X, Wx, o, k, tk, h => by
    rw [chk.eq_def] at h; dsimp only at h
    split at h
    · simp only [Bool.and_eq_true] at h
      obtain ⟨⟨⟨⟨⟨h1, h2⟩, h3⟩, h4⟩, h5⟩, h6⟩ := h
      have e := eqN_eq h1
      subst e
      exact Snd.plain (fun fr hf => s_smeth m (snd a sc _ X Wx o k tk h3).val (snd b sc _ X Wx o k tk h4).val (star_cons h5) (base_eq h6) h2) (fun _ => rfl) (fun _ _ _ q => nomatch q)
    · cases h
  | .bi b es, sc, x, X, Wx, o, k, tk, h => by
    rw [chk.eq_def] at h; dsimp only at h
    split at h
    · rename_i y p x0 xs pos
      simp only [Bool.and_eq_true] at h
      obtain ⟨⟨h1, h2⟩, h3⟩ := h
      refine Snd.plain (fun fr hf => ?_) (fun _ => rfl) (fun _ _ _ q => nomatch q)
      cases eb : isiOf b with
      | none =>
        rw [eb] at h3
        have h3 : chks T N es sc (x0 :: xs) = true := h3
        obtain ⟨g, m⟩ := free_of o k h2
        have e := eqN_eq h1
        subst e
        have st := chks_stars h3
        rw [List.all_cons, Bool.and_eq_true] at st
        exact s_bi o.calm b (fun ts e => by subst e; cases eb) g m (biN_boot b) (snds es sc _ X Wx o k tk h3) (biN_name b).1 (biN_name b).2 (star_cons st.1) (stars_any st.2)
      | some ts =>
        rw [eb] at h3
        have e : b = .isi ts := by cases b <;> first | (cases eb; rfl) | cases eb
        subst e
        rw [Bool.and_eq_true] at h3
        obtain ⟨h4, h5⟩ := h3
        cases xs with
        | nil => cases h4
        | cons t r =>
          cases r with
          | cons _ _ => cases h4
          | nil =>
            have st := chks_stars h5
            rw [List.all_cons, Bool.and_eq_true] at st
            cases es with
            | nil => exact absurd (show false = true from h5) (by decide)
            | cons e es =>
              rw [chks] at h5
              simp only [Bool.and_eq_true] at h5
              cases es with
              | nil => exact s_isi o k h1 h2 (snd e sc _ X Wx o k tk h5.1.2).val st.1 h4
              | cons _ _ => exact absurd (show false = true from h5.2) (by decide)
    · cases h
  | .comp tg it cond elt own, sc, x, X, Wx, o, k, tk, h => by
    rw [chk.eq_def] at h; dsimp only at h
    split at h
    · rename_i z t iter ifs s pos
      simp only [Bool.and_eq_true] at h
      obtain ⟨⟨⟨⟨⟨⟨⟨h1, h2⟩, h3⟩, h4⟩, h5⟩, h6⟩, h7⟩, h8⟩ := h
      refine Snd.plain (fun fr hf => ?_) (fun _ => rfl) (fun _ _ _ q => nomatch q)
      have hb : BlkOk X.N X.env.scope s (ownP N own) := k.blkOk (by rw [o.N]; exact blkOk_by h1)
      have key := s_comp (X := X) (cad := cad) (Wx := Wx) (Φ := Φ) (fr := fr) (pos := pos) (elt := z) (tg := t) (iter := iter) (ifs := ifs) (scope := s) (own := ownP N own) (tgl := tg) (it := it) (cond := cond) (el := elt) o.calm o.nd
        (sndi it sc iter t X Wx o k tk h3 (fun hn => by rw [hn] at h4; simpa using h4)) hb
        (fun s1 H1 C cl fp => s_tg (o.blk s1 H1 s C cl fp) (ScOk.blk s1 H1 s C cl fp) h2)
        (by
          cases ifs with
          | nil => exact .inl ⟨rfl, h6⟩
          | cons c r =>
            cases r with
            | cons _ _ => cases h6
            | nil =>
              simp only [Bool.and_eq_true, Bool.not_eq_true'] at h6
              exact .inr ⟨c, rfl, h6.1, fun s1 H1 C cl fp => (snd cond s c _ W0 (o.blk s1 H1 s C cl fp) (ScOk.blk s1 H1 s C cl fp) takesN h6.2).pt⟩)
        (fun s1 H1 C cl fp => (snd elt s z _ W0 (o.blk s1 H1 s C cl fp) (ScOk.blk s1 H1 s C cl fp) takesN h7).val)
        (unfolded h5) (fun i hi => by
          rw [ownP_map]
          have := List.all_eq_true.mp h8 i hi
          obtain ⟨j, hj, e⟩ := any_elim this
          rw [beq_iff_eq.mp e]; exact hj)
      rw [ownP_map] at key
      exact key
    · cases h
  | .nop, sc, x, X, Wx, o, k, tk, h => by cases h
termination_by structural e => e
theorem snds {T : Tab} {N : List Str} {cad : Nat → Addr} {Φ : Fns} : ∀ (es : LEs) (sc : Scope) (xs : List Expr) (X : Cx) (Wx : WX), XOk T N cad Φ X → ScOk sc X → Takes X Wx → chks T N es sc xs = true → PA X xs (rdA (kp X) cad Wx Φ es)
  | .nil, sc, xs, X, Wx, o, k, tk, h => by
    cases xs with
    | nil => exact s_nil
    | cons _ _ => exact absurd (show false = true from h) (by decide)
  | .cons e es, sc, xs, X, Wx, o, k, tk, h => by
    cases xs with
    | nil => exact absurd (show false = true from h) (by decide)
    | cons x xs =>
      rw [chks] at h
      simp only [Bool.and_eq_true] at h
      exact s_cons (snd e sc x X Wx o k tk h.1.2).val (snds es sc xs X Wx o k tk h.2) (star_cons h.1.1)
termination_by structural es => es
theorem sndk {T : Tab} {N : List Str} {cad : Nat → Addr} {Φ : Fns} : ∀ (es : LEs) (sc : Scope) (kws : List Keyword) (X : Cx) (Wx : WX), XOk T N cad Φ X → ScOk sc X → Takes X Wx → chks T N es sc (kws.map (·.value)) = true → PK X kws (rdA (kp X) cad Wx Φ es)
  | .nil, sc, kws, X, Wx, o, k, tk, h => by
    cases kws with
    | nil => exact sk_nil
    | cons _ _ => exact absurd (show false = true from h) (by decide)
  | .cons e es, sc, kws, X, Wx, o, k, tk, h => by
    cases kws with
    | nil => exact absurd (show false = true from h) (by decide)
    | cons kw kws =>
      rw [List.map_cons, chks] at h
      simp only [Bool.and_eq_true] at h
      obtain ⟨nm, e', kp'⟩ := kw
      exact sk_cons (snd e sc _ X Wx o k tk h.1.2).val (sndk es sc kws X Wx o k tk h.2)
termination_by structural es => es
theorem sndi {T : Tab} {N : List Str} {cad : Nat → Addr} {Φ : Fns} : ∀ (it : LI) (sc : Scope) (x tg : Expr) (X : Cx) (Wx : WX), XOk T N cad Φ X → ScOk sc X → Takes X Wx → chki T N it sc x = true → (needT it = true → isTupE tg = true) → PI X tg x (rdI (kp X) cad Wx Φ it)
  | .itm e, sc, x, tg, X, Wx, o, k, tk, h, _ => s_itm (snd e sc x X Wx o k tk h).val
  | .rng1 a, sc, x, tg, X, Wx, o, k, tk, h, _ => by
    rw [chki.eq_def] at h; dsimp only at h
    split at h
    · simp only [Bool.and_eq_true] at h
      obtain ⟨⟨⟨h1, h2⟩, h3⟩, h4⟩ := h
      obtain ⟨g, m⟩ := free_of o k h2
      have e := eqN_eq h1
      subst e
      exact s_rng1 g m (s_cons (snd a sc _ X Wx o k tk h3).val s_nil (star_cons h4)) (star_cons h4)
    · cases h
  | .rng2 a b, sc, x, tg, X, Wx, o, k, tk, h, _ => by
    rw [chki.eq_def] at h; dsimp only at h
    split at h
    · simp only [Bool.and_eq_true] at h
      obtain ⟨⟨⟨⟨⟨h1, h2⟩, h3⟩, h4⟩, h5⟩, h6⟩ := h
      obtain ⟨g, m⟩ := free_of o k h2
      have e := eqN_eq h1
      subst e
      have s2 := star_cons (xs := []) (env := X.env) h6
      refine s_rng2 g m (s_cons (snd a sc _ X Wx o k tk h3).val (s_cons (snd b sc _ X Wx o k tk h4).val s_nil s2) (star_cons h5)) ?_ s2
      rw [star_cons h5, s2]; rfl
    · cases h
  | .zip a b, sc, x, tg, X, Wx, o, k, tk, h, ht => by
    obtain ⟨elts, kk, tpos, rfl⟩ := isTup_of (ht rfl)
    rw [chki.eq_def] at h; dsimp only at h
    split at h
    · simp only [Bool.and_eq_true] at h
      obtain ⟨⟨⟨⟨⟨h1, h2⟩, h3⟩, h4⟩, h5⟩, h6⟩ := h
      obtain ⟨g, m⟩ := free_of o k h2
      have e := eqN_eq h1
      subst e
      have s2 := star_cons (xs := []) (env := X.env) h6
      exact s_zip g m (s_cons (snd a sc _ X Wx o k tk h3).val (s_cons (snd b sc _ X Wx o k tk h4).val s_nil s2) (star_cons h5)) (star_cons h5) (stars_any (by simp [h6]))
    · cases h
  | .enum a, sc, x, tg, X, Wx, o, k, tk, h, _ => by cases h
termination_by structural it => it
end
end LL
/-! == LL13 == -/
set_option Elab.async false
set_option linter.all false
set_option maxRecDepth 100000
set_option maxHeartbeats 4000000
/-! LL, part 13: statements: what they mean; the state -/
namespace LL
open PySem PySem.Spec PyProof.Rows L2

/-- what a name has: nothing; a value; a list of the def's own (it may still change) -/
inductive Slot where
  | no
  | val (d : D)
  | own (ds : List D)
  deriving Inhabited
abbrev SEnv := List Slot
def slotV : Slot → Option D
  | .val d => some d
  | _ => none
/-- what an expression sees -/
def view (s : SEnv) : Env := s.map slotV
def frz1 (i : Nat) (s : SEnv) : SEnv := match s[i]? with
  | some (.own ds) => s.set i (.val (.lst ds))
  | _ => s
/-- own lists become values -/
def frz : List Nat → SEnv → SEnv
  | [], s => s
  | i :: is, s => frz is (frz1 i s)
mutual
/-- is there a list within -/
def D.hasL : D → Bool
  | .non | .bl _ | .int _ | .str _ => false
  | .tup ds => D.hasLs ds
  | .ob _ => false
  | _ => true
def D.hasLs : List D → Bool
  | [] => false
  | d :: ds => D.hasL d || D.hasLs ds
end
/-- an end of statements -/
inductive Rs where
  | nx (s : SEnv) (w : W)
  | rt (d : D) (w : W)
  | bk (s : SEnv) (w : W)
  | ct (s : SEnv) (w : W)
  | er (e : Er) (w : W)
  | bad
def R.thenS {α : Type} (x : R α) (f : α → Rs) : Rs := match x with
  | .ok a => f a
  | .er e w => .er e w
  | .bad => .bad
@[simp] theorem R.thenS_ok {α : Type} (a : α) (f : α → Rs) : (R.ok a).thenS f = f a := rfl
@[simp] theorem R.thenS_er {α : Type} (e : Er) (w : W) (f : α → Rs) : (R.er e w : R α).thenS f = .er e w := rfl
@[simp] theorem R.thenS_bad {α : Type} (f : α → Rs) : (R.bad : R α).thenS f = .bad := rfl
def Rs.seq (x : Rs) (f : SEnv → W → Rs) : Rs := match x with
  | .nx s w => f s w
  | r => r
@[simp] theorem Rs.seq_nx (s : SEnv) (w : W) (f : SEnv → W → Rs) : (Rs.nx s w).seq f = f s w := rfl
@[simp] theorem Rs.seq_rt (d : D) (w : W) (f : SEnv → W → Rs) : (Rs.rt d w).seq f = .rt d w := rfl
@[simp] theorem Rs.seq_bk (s : SEnv) (w : W) (f : SEnv → W → Rs) : (Rs.bk s w).seq f = .bk s w := rfl
@[simp] theorem Rs.seq_ct (s : SEnv) (w : W) (f : SEnv → W → Rs) : (Rs.ct s w).seq f = .ct s w := rfl
@[simp] theorem Rs.seq_er (e : Er) (w : W) (f : SEnv → W → Rs) : (Rs.er e w).seq f = .er e w := rfl
@[simp] theorem Rs.seq_bad (f : SEnv → W → Rs) : Rs.bad.seq f = .bad := rfl
/-- behind a turn of a loop -/
def Rs.turn (x : Rs) (f : SEnv → W → Rs) : Rs := match x with
  | .nx s w => f s w
  | .ct s w => f s w
  | .bk s w => .nx s w
  | r => r
@[simp] theorem Rs.turn_nx (s : SEnv) (w : W) (f : SEnv → W → Rs) : (Rs.nx s w).turn f = f s w := rfl
@[simp] theorem Rs.turn_rt (d : D) (w : W) (f : SEnv → W → Rs) : (Rs.rt d w).turn f = .rt d w := rfl
@[simp] theorem Rs.turn_bk (s : SEnv) (w : W) (f : SEnv → W → Rs) : (Rs.bk s w).turn f = .nx s w := rfl
@[simp] theorem Rs.turn_ct (s : SEnv) (w : W) (f : SEnv → W → Rs) : (Rs.ct s w).turn f = f s w := rfl
@[simp] theorem Rs.turn_er (e : Er) (w : W) (f : SEnv → W → Rs) : (Rs.er e w).turn f = .er e w := rfl
@[simp] theorem Rs.turn_bad (f : SEnv → W → Rs) : Rs.bad.turn f = .bad := rfl
def setTs : List Nat → List D → SEnv → Option SEnv
  | [], [], s => some s
  | i :: is, d :: ds, s => setTs is ds (s.set i (.val d))
  | _, _, _ => none
def setT : Tg → D → SEnv → Option SEnv
  | .one i, d, s => some (s.set i (.val d))
  | .many is, .tup ds, s => setTs is ds s
  | _, _, _ => none
/-! kp: own lists that the expression reads and that stay own (no list comes back then); fz: own lists that it takes -/
mutual
inductive LS where
  | set (kp fz : List Nat) (tg : Tg) (e : LE)
  | new (fz : List Nat) (i : Nat) (e : LE)
  | par (kp fz : List Nat) (is : List Nat) (os : List Bool) (es : LEs)
  | app (kp fz : List Nat) (i : Nat) (e : LE)
  | ext (fz : List Nat) (i : Nat) (e : LE)
  | pop (j : Option Tg) (i : Nat)
  | iadd (fz : List Nat) (i : Nat) (e : LE)
  | put (kp fz : List Nat) (i : Nat) (ix e : LE)
  | aug (kp fz : List Nat) (o : Op2) (i : Nat) (e : LE)
  | exp (kp fz : List Nat) (e : LE)
  | iff (kp fz : List Nat) (c : LE) (a b : LSs)
  | whl (kp fz : List Nat) (c : LE) (b : LSs)
  | for_ (fz : List Nat) (tg : Tg) (it : LI) (b : LSs)
  | forR (kp fz : List Nat) (i : Nat) (lo hi : LE) (b : LSs)
  | ret (fz : List Nat) (e : LE)
  | retO (i : Nat)
  | retD (kp fz : List Nat) (a b : LE)
  | appPop (kp fz : List Nat) (i j : Nat) (e : LE)
  | popAt (kp fz : List Nat) (t j : Nat) (e : LE)
  | retN
  | brk
  | cnt
  | pas
inductive LSs where
  | nil
  | cons (s : LS) (ss : LSs)
end
/-- an expression of a statement -/
def evS (Φ : Fns) (kp fz : List Nat) (e : LE) (s : SEnv) (w : W) : R (D × W) :=
  (ev Φ (view (frz kp (frz fz s))) e w).bind fun (d, w') => if kp.isEmpty || !d.hasL then .ok (d, w') else .bad
def toSlot : Bool → D → Option Slot
  | false, d => some (.val d)
  | true, .lst ds => some (.own ds)
  | true, _ => none
/-- several expressions, from the left; those marked are new lists of the def's own -/
def parGo (Φ : Fns) (kp : List Nat) (s : SEnv) : LEs → List Bool → W → R (List Slot × W)
  | .nil, [], w => .ok ([], w)
  | .cons e es, o :: os, w => (evS Φ kp [] e s w).bind fun (d, w1) => match toSlot o d with
    | some x => (parGo Φ kp s es os w1).bind fun (xs, w2) => .ok (x :: xs, w2)
    | none => .bad
  | _, _, _ => .bad
termination_by structural es => es
def putSlots : List Nat → List Slot → SEnv → Option SEnv
  | [], [], s => some s
  | i :: is, x :: xs, s => if i < s.length then putSlots is xs (s.set i x) else none
  | _, _, _ => none
def toB (x : R (D × W)) : R (Bool × W) := x.bind fun (d, w) => R.of w (asB d)
def toI (x : R (D × W)) : R (Int × W) := x.bind fun (d, w) => match d with
  | .int i => .ok (i, w)
  | _ => .bad
def forGo (b : D → SEnv → W → Rs) : List D → SEnv → W → Rs
  | [], s, w => .nx s w
  | d :: ds, s, w => (b d s w).turn (forGo b ds)
def whGo (c : SEnv → W → R (Bool × W)) (fz : List Nat) (b : SEnv → W → Rs) : Nat → SEnv → W → Rs
  | 0, _, _ => .bad
  | n + 1, s, w => (c s w).thenS fun (k, w') => match k with
    | true => (b (frz fz s) w').turn (whGo c fz b n)
    | false => .nx (frz fz s) w'
def augD : Op2 → D → D → Option D
  | .add, .int i, .int j => some (.int (i + j))
  | .sub, .int i, .int j => some (.int (i - j))
  | _, _, _ => none
def ownAt (s : SEnv) (i : Nat) : Option (List D) := match s[i]? with
  | some (.own ds) => some ds
  | _ => none
def valAt (s : SEnv) (i : Nat) : Option D := match s[i]? with
  | some (.val d) => some d
  | _ => none
mutual
def exec (Φ : Fns) (n : Nat) : LS → SEnv → W → Rs
  | .set kp fz tg e, s, w => (evS Φ kp fz e s w).thenS fun (d, w') => match setT tg d (frz fz s) with
    | some s' => .nx s' w'
    | none => .bad
  | .new fz i e, s, w => (evS Φ [] fz e s w).thenS fun (d, w') => match d with
    | .lst ds => .nx ((frz fz s).set i (.own ds)) w'
    | _ => .bad
  | .par kp fz is os es, s, w => (parGo Φ kp (frz fz s) es os w).thenS fun (xs, w') => match putSlots is xs (frz fz s) with
    | some s' => .nx s' w'
    | none => .bad
  | .app kp fz i e, s, w => match ownAt (frz fz s) i with
    | some ds => (evS Φ kp fz e s w).thenS fun (d, w') => if ds.length < big then .nx ((frz fz s).set i (.own (ds ++ [d]))) w' else .bad
    | none => .bad
  | .ext fz i e, s, w => match ownAt (frz fz s) i with
    | some ds => (evS Φ [] fz e s w).thenS fun (d, w') => match d with
      | .lst es => if ds.length + es.length ≤ big then .nx ((frz fz s).set i (.own (ds ++ es))) w' else .bad
      | _ => .bad
    | none => .bad
  | .pop j i, s, w => match ownAt s i with
    | some ds => match ds[ds.length - 1]? with
      | some d => match (match j with | some j => setT j d (s.set i (.own ds.dropLast)) | none => some (s.set i (.own ds.dropLast))) with
        | some s' => .nx s' w
        | none => .bad
      | none => .bad
    | none => .bad
  | .iadd fz i e, s, w => match ownAt (frz fz s) i with
    | some ds => (evS Φ [] fz e s w).thenS fun (d, w') => match d with
      | .lst es => if ds.length + es.length ≤ big then .nx ((frz fz s).set i (.own (ds ++ es))) w' else .bad
      | _ => .bad
    | none => .bad
  | .put kp fz i ix e, s, w => match ownAt (frz fz s) i with
    | some ds => (evS Φ kp fz e s w).thenS fun (d, w') => (toI (evS Φ kp [] ix (frz fz s) w')).thenS fun (k, w') => match ixN ds.length k with
      | some j => .nx ((frz fz s).set i (.own (ds.set j d))) w'
      | none => .bad
    | none => .bad
  | .aug kp fz o i e, s, w => match valAt (frz fz s) i with
    | some x => (evS Φ kp fz e s w).thenS fun (d, w') => match augD o x d with
      | some z => .nx ((frz fz s).set i (.val z)) w'
      | none => .bad
    | none => .bad
  | .exp kp fz e, s, w => (evS Φ kp fz e s w).thenS fun (_, w') => .nx (frz fz s) w'
  | .iff kp fz c a b, s, w => (toB (evS Φ kp fz c s w)).thenS fun (k, w') => match k with
    | true => execs Φ n a (frz fz s) w'
    | false => execs Φ n b (frz fz s) w'
  | .whl kp fz c b, s, w => whGo (fun s w => toB (evS Φ kp fz c s w)) fz (fun s w => execs Φ n b s w) n s w
  | .for_ fz tg it b, s, w => (evi Φ (view (frz fz s)) it w).thenS fun (ds, w') => forGo (fun d s w => match setT tg d s with
      | some s' => execs Φ n b s' w
      | none => .bad) ds (frz fz s) w'
  | .forR kp fz i lo hi b, s, w => (evoF (isNop lo) (fun w => evS Φ kp fz lo s w) w).thenS fun (l, w') => (toI (evS Φ kp [] hi (frz fz s) w')).thenS fun (h, w') =>
      if okI (l.getD 0) && okI h then forGo (fun d s w => execs Φ n b (s.set i (.val d)) w) (rngD (l.getD 0) (h - l.getD 0).toNat) (frz fz s) w' else .bad
  | .ret fz e, s, w => (evS Φ [] fz e s w).thenS fun (d, w') => .rt d w'
  | .retO i, s, w => match ownAt s i with
    | some ds => .rt (.lst ds) w
    | none => .bad
  | .retD kp fz a b, s, w => (evS Φ kp fz a s w).thenS fun (x, w1) => match x with
    | .lst ds => (toI (evS Φ kp [] b (frz fz s) w1)).thenS fun (k, w2) => match D.toInts ds with
      | some cs => .rt (.ob w2.length) (w2 ++ [.deal cs k])
      | none => .bad
    | _ => .bad
  | .appPop kp fz i j e, s, w => match ownAt (frz fz s) i, ownAt (frz fz s) j with
    | some ds, some es => if i = j then .bad else (toI (evS Φ kp fz e s w)).thenS fun (k, w') => match ixN es.length k with
      | some m => match es[m]? with
        | some d => if ds.length < big ∧ okI k = true then .nx (((frz fz s).set j (.own (es.eraseIdx m))).set i (.own (ds ++ [d]))) w' else .bad
        | none => .bad
      | none => .bad
    | _, _ => .bad
  | .popAt kp fz t j e, s, w => match ownAt (frz fz s) j with
    | some es => (toI (evS Φ kp fz e s w)).thenS fun (k, w') => match ixN es.length k with
      | some m => match es[m]? with
        | some d => if okI k = true then .nx (((frz fz s).set j (.own (es.eraseIdx m))).set t (.val d)) w' else .bad
        | none => .bad
      | none => .bad
    | none => .bad
  | .retN, _, w => .rt .non w
  | .brk, s, w => .bk s w
  | .cnt, s, w => .ct s w
  | .pas, s, w => .nx s w
termination_by structural s => s
def execs (Φ : Fns) (n : Nat) : LSs → SEnv → W → Rs
  | .nil, s, w => .nx s w
  | .cons st ss, s, w => (exec Φ n st s w).seq fun s' w' => execs Φ n ss s' w'
termination_by structural ss => ss
end

/-! ### the state -/
structure StR (K : KP) (F Rf0 Rf : Hp) (ad : Ads) (s : SEnv) (w : W) (σ : L2.St) (H : Hp) : Prop where
  sr : SR F Rf ad w H
  ex : Ex Rf0 Rf
  len : s.length = σ.length
  val : ∀ (i : Nat) (d : D), s[i]? = some (.val d) → ∃ v, σ[i]? = some (some v) ∧ Rp K F ad v d
  own : ∀ (i : Nat) (ds : List D), s[i]? = some (.own ds) → ∃ p vs, σ[i]? = some (some (.ref p)) ∧ Rf p = some (.lst vs) ∧ RpAll K F ad vs ds ∧ Rf0 p = none
  ap : ∀ (i j : Nat) (ds es : List D) (p : Addr), i ≠ j → s[i]? = some (.own ds) → s[j]? = some (.own es) → σ[i]? = some (some (.ref p)) → σ[j]? ≠ some (some (.ref p))
section
variable {K : KP} {F F' Rf0 Rf : Hp} {ad ad' : Ads} {s : SEnv} {w : W} {σ : L2.St} {H : Hp}
theorem SR.less {Rf' : Hp} (r : SR F Rf ad w H) (x : Ex Rf' Rf) : SR F Rf' ad w H := by
  refine ⟨r.fx, fun a o e => r.rx a o (x a o e), fun a o e => r.dj a o (x a o e), ⟨r.wk.len, r.wk.cell, fun n p h => ?_, r.wk.apart⟩⟩
  obtain ⟨a, b, c, d⟩ := r.wk.f1 n p h
  refine ⟨a, b, ?_, ?_⟩
  · cases e : Rf' p.1 with
    | none => rfl
    | some u => rw [x _ _ e] at c; cases c
  · cases e : Rf' p.2 with
    | none => rfl
    | some u => rw [x _ _ e] at d; cases d
theorem StR.base (k : StR K F Rf0 Rf ad s w σ H) : SR F Rf0 ad w H := k.sr.less k.ex
theorem StR.envR (k : StR K F Rf0 Rf ad s w σ H) : EnvR K F ad (view s) σ := ⟨by simp [view, k.len], fun i d h => by
  unfold view at h
  rw [List.getElem?_map] at h
  cases e : s[i]? with
  | none => rw [e] at h; cases h
  | some x =>
    rw [e] at h
    cases x with
    | val d' => cases h; exact k.val i d e
    | no => cases h
    | own ds => cases h⟩
/-- behind an expression: the heap grew -/
theorem StR.grown (k : StR K F Rf0 Rf ad s w σ H) {w' : W} {H' : Hp} (x : Ex F F') (l : Le ad ad') (r : SR F' Rf ad' w' H') : StR K F' Rf0 Rf ad' s w' σ H' :=
  ⟨r, k.ex, k.len, fun i d h => let ⟨v, a, b⟩ := k.val i d h; ⟨v, a, b.mono x l⟩, fun i ds h => let ⟨p, vs, a, b, c, d⟩ := k.own i ds h; ⟨p, vs, a, b, c.mono x l, d⟩, k.ap⟩
theorem get_set_of {α : Type} {l : List α} {i j : Nat} {a x : α} (h : (l.set i a)[j]? = some x) : (i = j ∧ x = a ∧ i < l.length) ∨ (i ≠ j ∧ l[j]? = some x) := by
  rw [List.getElem?_set] at h
  split at h
  · rename_i q
    split at h
    · rename_i q2; cases h; exact .inl ⟨q, rfl, q2⟩
    · cases h
  · rename_i q; exact .inr ⟨q, h⟩
def del (Rf : Hp) (p : Addr) : Hp := fun a => if a = p then none else Rf a
theorem del_ex {p : Addr} {a : Addr} {o : HO} (h : del Rf p a = some o) : a ≠ p ∧ Rf a = some o := by
  unfold del at h
  split at h
  · cases h
  · rename_i q; exact ⟨q, h⟩
theorem del_ne {p a : Addr} (h : a ≠ p) : del Rf p a = Rf a := by unfold del; rw [if_neg h]
theorem SR.move {p : Addr} {o : HO} (r : SR F Rf ad w H) (h : Rf p = some o) : SR (upd F p o) (del Rf p) ad w H := by
  have ap := r.apart h
  refine ⟨fun a u e => ?_, fun a u e => r.rx a u (del_ex e).2, fun a u e => ?_, ⟨r.wk.len, r.wk.cell, fun n q hq => ?_, r.wk.apart⟩⟩
  · by_cases ha : a = p
    · subst ha; rw [upd_same] at e; cases e; exact r.rx _ _ h
    · rw [upd_ne ha] at e; exact r.fx _ _ e
  · obtain ⟨h1, h2⟩ := del_ex e
    rw [upd_ne h1]; exact r.dj _ _ h2
  · obtain ⟨n1, n2⟩ := ap n q hq
    obtain ⟨a, b, c, d⟩ := r.wk.f1 n q hq
    exact ⟨by rw [upd_ne n1]; exact a, by rw [upd_ne n2]; exact b, by rw [del_ne n1]; exact c, by rw [del_ne n2]; exact d⟩
theorem StR.frz1 (k : StR K F Rf0 Rf ad s w σ H) (i : Nat) : ∃ F' Rf', Ex F F' ∧ StR K F' Rf0 Rf' ad (frz1 i s) w σ H ∧ (∀ a o, Rf a = some o → Rf' a = some o ∨ (F' a = some o ∧ ∃ vs, o = .lst vs)) ∧ Ex Rf' Rf := by
  unfold LL.frz1
  split
  · rename_i ds e
    obtain ⟨p, vs, h1, h2, h3, h4⟩ := k.own i ds e
    have fp := k.sr.dj _ _ h2
    refine ⟨upd F p (.lst vs), del Rf p, Ex.new fp, ⟨k.sr.move h2, fun a o q => ?_, by simp [k.len], fun j d h => ?_, fun j es h => ?_, fun a b ds' es p' hab ha hb hp => ?_⟩, fun a o q => ?_, fun a o q => (del_ex q).2⟩
    · rw [del_ne (fun z => by rw [z, h4] at q; cases q)]; exact k.ex _ _ q
    · rcases get_set_of h with ⟨rfl, q, _⟩ | ⟨_, q⟩
      · cases q
        exact ⟨.ref p, h1, (h3.mono (Ex.new fp) (Le.refl ad)).lst upd_same⟩
      · obtain ⟨v, a, b⟩ := k.val j d q
        exact ⟨v, a, b.mono (Ex.new fp) (Le.refl ad)⟩
    · rcases get_set_of h with ⟨rfl, q, _⟩ | ⟨hij, q⟩
      · cases q
      · obtain ⟨p', vs', g1, g2, g3, g4⟩ := k.own j es q
        refine ⟨p', vs', g1, ?_, g3.mono (Ex.new fp) (Le.refl ad), g4⟩
        rw [del_ne (fun z => by rw [z] at g1; exact k.ap i j ds es p hij e q h1 g1)]
        exact g2
    · rcases get_set_of ha with ⟨_, q, _⟩ | ⟨_, q⟩
      · cases q
      · rcases get_set_of hb with ⟨_, q', _⟩ | ⟨_, q'⟩
        · cases q'
        · exact k.ap a b ds' es p' hab q q' hp
    · by_cases ha : a = p
      · subst ha; rw [h2] at q; cases q; exact .inr ⟨upd_same, vs, rfl⟩
      · exact .inl (by rw [del_ne ha]; exact q)
  · exact ⟨F, Rf, Ex.refl F, k, fun a o q => .inl q, Ex.refl Rf⟩
theorem StR.frz : ∀ (is : List Nat) {F Rf : Hp} {s : SEnv}, StR K F Rf0 Rf ad s w σ H → ∃ F' Rf', Ex F F' ∧ StR K F' Rf0 Rf' ad (frz is s) w σ H ∧ (∀ a o, Rf a = some o → Rf' a = some o ∨ (F' a = some o ∧ ∃ vs, o = .lst vs)) ∧ Ex Rf' Rf
  | [], F, Rf, s, k => ⟨F, Rf, Ex.refl F, k, fun a o q => .inl q, Ex.refl Rf⟩
  | i :: is, F, Rf, s, k => by
    obtain ⟨F1, R1, x1, k1, m1, n1⟩ := k.frz1 i
    obtain ⟨F2, R2, x2, k2, m2, n2⟩ := StR.frz is k1
    refine ⟨F2, R2, x1.trans x2, k2, fun a o q => ?_, n2.trans n1⟩
    rcases m1 a o q with q | ⟨q, z⟩
    · exact m2 a o q
    · exact .inr ⟨x2 _ _ q, z⟩
mutual
/-- what has no list within does not rest on lists -/
theorem rp_nolist {F3 : Hp} (h : ∀ a o, F a = some o → (∀ vs, o ≠ .lst vs) → F3 a = some o) : ∀ (d : D) (v : V), d.hasL = false → Rp K F ad v d → Rp K F3 ad v d
  | .non, v, _, r => by cases r; exact .non
  | .bl b, v, _, r => by cases r; exact .bl b
  | .int b, v, _, r => by cases r; exact .int b
  | .str b, v, _, r => by cases r; exact .str b
  | .ob n, v, _, r => by
    cases r with
    | ob h => exact .ob h
  | .tup ds, v, e, r => by
    rw [D.hasL] at e
    obtain ⟨a, vs, rfl, h1, r1⟩ := r.tup_inv
    refine RpAll.tup ?_ (rps_nolist h ds vs e r1)
    rcases h1 with (h1 | ⟨o, h1⟩) | h1
    · exact .inl (.inl (h _ _ h1 fun _ q => nomatch q))
    · exact .inl (.inr ⟨o, h _ _ h1 fun _ q => nomatch q⟩)
    · exact .inr h1
  | .lst ds, v, e, r => by cases e
  | .dct ks ds, v, e, r => by cases e
  | .scr ns, v, e, r => by cases e
theorem rps_nolist {F3 : Hp} (h : ∀ a o, F a = some o → (∀ vs, o ≠ .lst vs) → F3 a = some o) : ∀ (ds : List D) (vs : List V), D.hasLs ds = false → RpAll K F ad vs ds → RpAll K F3 ad vs ds
  | [], vs, _, r => by rw [r.nil_of]; exact .nil
  | d :: ds, vs, e, r => by
    rw [D.hasLs, Bool.or_eq_false_iff] at e
    cases vs with
    | nil => exact absurd r.1 (by simp)
    | cons v vs =>
      obtain ⟨d', es, e', r1, r2⟩ := r.uncons
      cases e'
      exact .cons (rp_nolist h d v e.1 r1) (rps_nolist h ds vs e.2 r2)
end
/-- own lists that an expression read are own again -/
theorem StR.back {F0 F1 R1 : Hp} {w' : W} {H' : Hp} (k : StR K F0 Rf0 Rf ad s w σ H) (hm : ∀ a o, Rf a = some o → R1 a = some o ∨ (F1 a = some o ∧ ∃ vs, o = .lst vs)) (x0 : Ex F0 F1) (x : Ex F1 F') (l : Le ad ad') (r : SR F' R1 ad' w' H') (hn : Ex R1 Rf) :
    ∃ F3, Ex F0 F3 ∧ StR K F3 Rf0 Rf ad' s w' σ H' ∧ ∀ a o, F' a = some o → (∀ vs, o ≠ .lst vs) → F3 a = some o := by
  let F3 : Hp := fun a => if Rf a = none then F' a else none
  have h3 : ∀ a, Rf a = none → F3 a = F' a := fun a h => if_pos h
  have x3 : Ex F0 F3 := fun a o e => by
    have ra : Rf a = none := by
      cases q : Rf a with
      | none => rfl
      | some u => rw [k.sr.dj _ _ q] at e; cases e
    rw [h3 a ra]
    exact x _ _ (x0 _ _ e)
  have sr : SR F3 Rf ad' w' H' := by
    refine ⟨fun a o e => ?_, fun a o e => ?_, fun a o e => ?_, ⟨r.wk.len, r.wk.cell, fun n p h => ?_, r.wk.apart⟩⟩
    · have e : (if Rf a = none then F' a else none) = some o := e
      split at e
      · exact r.fx _ _ e
      · cases e
    · rcases hm a o e with q | ⟨q, _⟩
      · exact r.rx _ _ q
      · exact r.fx _ _ (x _ _ q)
    · show (if Rf a = none then F' a else none) = none
      rw [if_neg (by rw [e]; simp)]
    · obtain ⟨a, b, c, d⟩ := r.wk.f1 n p h
      have go : ∀ q : Addr, F' q = none → R1 q = none → F3 q = none ∧ Rf q = none := fun q z1 z2 => by
        have rq : Rf q = none := by
          cases e : Rf q with
          | none => rfl
          | some u =>
            rcases hm q u e with z | ⟨z, _⟩
            · rw [z2] at z; cases z
            · rw [x _ _ z] at z1; cases z1
        exact ⟨by rw [h3 q rq]; exact z1, rq⟩
      exact ⟨(go _ a c).1, (go _ b d).1, (go _ a c).2, (go _ b d).2⟩
  refine ⟨F3, x3, k.grown x3 l sr, fun a o e hl => ?_⟩
  have ra : Rf a = none := by
    cases q : Rf a with
    | none => rfl
    | some u =>
      rcases hm a u q with z | ⟨z, vs, rfl⟩
      · rw [r.dj _ _ z] at e; cases e
      · have := x _ _ z
        rw [e] at this
        cases this
        exact absurd rfl (hl vs)
  rw [h3 a ra]; exact e
end
end LL
/-! == LL14 == -/
set_option Elab.async false
set_option linter.all false
set_option maxRecDepth 100000
set_option maxHeartbeats 4000000
/-! LL, part 14: statements, read -/
namespace LL
open PySem PySem.Spec PyProof.Rows L2

def PostS (K : KP) (cad : Nat → Addr) (fr : Bool) (Rf0 : Hp) (E : XK) (F : Hp) (ad : Ads) (r : Rs) (Zn : Ends) : Prop := match r with
  | .nx s w => ∀ σ H F' Rf' ad', Ex F F' → Le ad ad' → StR K F' Rf0 Rf' ad' s w σ H → Zn.nx σ H
  | .ct s w => ∀ σ H F' Rf' ad', Ex F F' → Le ad ad' → StR K F' Rf0 Rf' ad' s w σ H → Zn.ct σ H
  | .bk s w => ∀ σ H F' Rf' ad', Ex F F' → Le ad ad' → StR K F' Rf0 Rf' ad' s w σ H → Zn.bk σ H
  | .rt d w => ∀ v H F' ad', Ex F F' → Le ad ad' → SR F' Rf0 ad' w H → Res K F' ad' Rf0 H fr v d → Zn.rt v H
  | .er e w => ErEnd K cad Rf0 E F ad e w
  | .bad => False
section
variable {K : KP} {cad : Nat → Addr} {fr : Bool} {Rf0 : Hp} {E : XK} {F F' : Hp} {ad ad' : Ads} {r : Rs} {Zn : Ends}
theorem PostS.mono (x : Ex F F') (l : Le ad ad') (h : PostS K cad fr Rf0 E F ad r Zn) : PostS K cad fr Rf0 E F' ad' r Zn := by
  cases r with
  | nx s w => exact fun σ H F2 R2 ad2 a b c => h σ H F2 R2 ad2 (x.trans a) (l.trans b) c
  | ct s w => exact fun σ H F2 R2 ad2 a b c => h σ H F2 R2 ad2 (x.trans a) (l.trans b) c
  | bk s w => exact fun σ H F2 R2 ad2 a b c => h σ H F2 R2 ad2 (x.trans a) (l.trans b) c
  | rt d w => exact fun v H F2 ad2 a b c d => h v H F2 ad2 (x.trans a) (l.trans b) c d
  | er e w => exact ErEnd.mono x l h
  | bad => exact h
theorem PostS.seq {f : SEnv → W → Rs} (h : PostS K cad fr Rf0 E F ad (r.seq f) Zn) {N : L2.St → Hp → Prop} (k : ∀ s w σ H F' Rf' ad', Ex F F' → Le ad ad' → StR K F' Rf0 Rf' ad' s w σ H → PostS K cad fr Rf0 E F' ad' (f s w) Zn → N σ H) :
    PostS K cad fr Rf0 E F ad r { Zn with nx := N } := by
  cases r with
  | nx s w => exact fun σ H F2 R2 ad2 a b c => k s w σ H F2 R2 ad2 a b c (PostS.mono a b h)
  | ct s w => exact h
  | bk s w => exact h
  | rt d w => exact h
  | er e w => exact h
  | bad => exact h
theorem PostS.turn {f : SEnv → W → Rs} (h : PostS K cad fr Rf0 E F ad (r.turn f) Zn) {N : L2.St → Hp → Prop} (k : ∀ s w σ H F' Rf' ad', Ex F F' → Le ad ad' → StR K F' Rf0 Rf' ad' s w σ H → PostS K cad fr Rf0 E F' ad' (f s w) Zn → N σ H) :
    PostS K cad fr Rf0 E F ad r { Zn with nx := N, ct := N, bk := Zn.nx } := by
  cases r with
  | nx s w => exact fun σ H F2 R2 ad2 a b c => k s w σ H F2 R2 ad2 a b c (PostS.mono a b h)
  | ct s w => exact fun σ H F2 R2 ad2 a b c => k s w σ H F2 R2 ad2 a b c (PostS.mono a b h)
  | bk s w => exact h
  | rt d w => exact h
  | er e w => exact h
  | bad => exact h
theorem PostS.here {s : SEnv} {w : W} {Rf : Hp} {σ : L2.St} {H : Hp} (h : PostS K cad fr Rf0 E F ad (.nx s w) Zn) (k : StR K F Rf0 Rf ad s w σ H) : Zn.nx σ H := h σ H F Rf ad (Ex.refl F) (Le.refl ad) k
theorem hasL_lst {d : LL.D} (h : d.hasL = false) : ∀ ds, d ≠ .lst ds := fun ds e => by subst e; cases h
abbrev WS (E : XK) : WX := fun cls d _ H => E cls d H
/-- an expression of a statement: what is wanted of its value -/
theorem evS_rd {Φ : Fns} {kp fz : List Nat} {e : LE} {s : SEnv} {w : W} {Rf : Hp} {σ : L2.St} {H : Hp} {frE : Bool} {f : LL.D × W → Rs} {Q' : VK} (st : StR K F Rf0 Rf ad s w σ H) (p : PostS K cad fr Rf0 E F ad ((evS Φ kp fz e s w).thenS f) Zn)
    (k : ∀ d w1 v H1 F1 Rf1 ad1, Ex F F1 → Le ad ad1 → StR K F1 Rf0 Rf1 ad1 (frz fz s) w1 σ H1 → Res K F1 ad1 Rf1 H1 frE v d → PostS K cad fr Rf0 E F1 ad1 (f (d, w1)) Zn → Q' v H1) : rdE K cad (WS E) Φ frE e σ H Q' := by
  obtain ⟨F0, R0, x0, st0, _, n0⟩ := st.frz fz
  obtain ⟨F1, R1, x1, st1, m1, n1⟩ := st0.frz kp
  refine ⟨F1, R1, ad, view (frz kp (frz fz s)), w, st1.sr, st1.envR, ?_⟩
  unfold evS at p
  cases e1 : ev Φ (view (frz kp (frz fz s))) e w with
  | bad => rw [e1] at p; exact p.elim
  | er e' w' =>
    rw [e1] at p
    exact fun cls dd H2 F2 ad2 a b c r => p cls dd H2 F2 ad2 ((x0.trans x1).trans a) b (c.less st1.ex) r
  | ok y =>
    obtain ⟨d, w1⟩ := y
    rw [e1] at p
    have p : PostS K cad fr Rf0 E F ad ((if (kp.isEmpty || !d.hasL) = true then R.ok (d, w1) else .bad : R (LL.D × W)).thenS f) Zn := p
    by_cases hc : (kp.isEmpty || !d.hasL) = true
    · rw [if_pos hc] at p
      have p9 : PostS K cad fr Rf0 E F ad (f (d, w1)) Zn := p
      clear p
      intro v H2 F2 ad2 a b c r
      cases kp with
      | nil => exact k d w1 v H2 F2 R1 ad2 ((x0.trans x1).trans a) b (st1.grown a b c) r (PostS.mono ((x0.trans x1).trans a) b p9)
      | cons i is =>
        have hd : d.hasL = false := by simpa using hc
        obtain ⟨F3, x3, st3, g⟩ := st0.back m1 x1 a b c n1
        have r' : Rp K F2 ad2 v d := by
          cases frE with
          | false => exact r
          | true =>
            cases d with
            | lst ds => cases hd
            | _ => exact r
        exact k d w1 v H2 F3 R0 ad2 (x0.trans x3) b st3 (Res.flat (hasL_lst hd) (rp_nolist g d v hd r')) (PostS.mono (x0.trans x3) b p9)
    · rw [if_neg hc] at p
      exact p.elim
theorem toB_then {x : R (LL.D × W)} {f : Bool × W → Rs} : (toB x).thenS f = x.thenS fun (d, w) => (R.of w (asB d)).thenS f := by cases x <;> rfl
theorem toI_then {x : R (LL.D × W)} {f : Int × W → Rs} : (toI x).thenS f = x.thenS fun (d, w) => (match d with | .int i => R.ok (i, w) | _ => .bad : R (Int × W)).thenS f := by
  cases x with
  | ok y => obtain ⟨d, w⟩ := y; rfl
  | er _ _ => rfl
  | bad => rfl
/-- a test of a statement -/
theorem evB_rd {Φ : Fns} {kp fz : List Nat} {e : LE} {s : SEnv} {w : W} {Rf : Hp} {σ : L2.St} {H : Hp} {f : Bool × W → Rs} {Q' : Bool → Hp → Prop} (st : StR K F Rf0 Rf ad s w σ H) (p : PostS K cad fr Rf0 E F ad ((toB (evS Φ kp fz e s w)).thenS f) Zn)
    (k : ∀ b w1 H1 F1 Rf1 ad1, Ex F F1 → Le ad ad1 → StR K F1 Rf0 Rf1 ad1 (frz fz s) w1 σ H1 → PostS K cad fr Rf0 E F1 ad1 (f (b, w1)) Zn → Q' b H1) : tB (rdE K cad (WS E) Φ false e) σ H Q' := by
  rw [toB_then] at p
  refine evS_rd (frE := false) st p fun d w1 v H1 F1 R1 ad1 x l s1 r p1 => ?_
  have p1 : PostS K cad fr Rf0 E F1 ad1 ((R.of w1 (asB d)).thenS f) Zn := p1
  cases eb : asB d with
  | none => rw [eb] at p1; exact p1.elim
  | some b =>
    rw [eb] at p1
    obtain rfl := asB_of eb
    exact ⟨b, r.rp.bl_inv, k b w1 H1 F1 R1 ad1 x l s1 p1⟩
/-- a number of a statement -/
theorem evI_rd {Φ : Fns} {kp fz : List Nat} {e : LE} {s : SEnv} {w : W} {Rf : Hp} {σ : L2.St} {H : Hp} {f : Int × W → Rs} {Q' : VK} (st : StR K F Rf0 Rf ad s w σ H) (p : PostS K cad fr Rf0 E F ad ((toI (evS Φ kp fz e s w)).thenS f) Zn)
    (k : ∀ b w1 H1 F1 Rf1 ad1, Ex F F1 → Le ad ad1 → StR K F1 Rf0 Rf1 ad1 (frz fz s) w1 σ H1 → PostS K cad fr Rf0 E F1 ad1 (f (b, w1)) Zn → Q' (.int b) H1) : rdE K cad (WS E) Φ false e σ H Q' := by
  rw [toI_then] at p
  refine evS_rd (frE := false) st p fun d w1 v H1 F1 R1 ad1 x l s1 r p1 => ?_
  cases d with
  | int i =>
    rw [r.rp.int_inv]
    exact k i w1 H1 F1 R1 ad1 x l s1 p1
  | _ => exact False.elim p1

/-! ### what is stored -/
theorem StR.set {Rf : Hp} {s : SEnv} {w : W} {σ : L2.St} {H : Hp} (k : StR K F Rf0 Rf ad s w σ H) {i : Nat} {v : V} {d : LL.D} (r : Rp K F ad v d) : StR K F Rf0 Rf ad (s.set i (.val d)) w (σ.set i (some v)) H :=
  ⟨k.sr, k.ex, by simp [k.len], fun j e h => by
    rcases get_set_of h with ⟨rfl, q, hi⟩ | ⟨hij, q⟩
    · cases q
      exact ⟨v, by rw [List.getElem?_set_self (by rw [← k.len]; exact hi)], r⟩
    · obtain ⟨u, a, b⟩ := k.val j e q
      exact ⟨u, by rw [List.getElem?_set_ne hij]; exact a, b⟩, fun j es h => by
    rcases get_set_of h with ⟨rfl, q, hi⟩ | ⟨hij, q⟩
    · cases q
    · obtain ⟨p, vs, a, b⟩ := k.own j es q
      exact ⟨p, vs, by rw [List.getElem?_set_ne hij]; exact a, b⟩, fun a b ds es p hab ha hb hp => by
    rcases get_set_of ha with ⟨_, q, _⟩ | ⟨h1, q⟩
    · cases q
    · rcases get_set_of hb with ⟨_, q', _⟩ | ⟨h2, q'⟩
      · cases q'
      · rw [List.getElem?_set_ne h1] at hp
        rw [List.getElem?_set_ne h2]
        exact k.ap a b ds es p hab q q' hp⟩
theorem StR.setNo {Rf : Hp} {s : SEnv} {w : W} {σ : L2.St} {H : Hp} (k : StR K F Rf0 Rf ad s w σ H) {i : Nat} {v : V} : StR K F Rf0 Rf ad (s.set i .no) w (σ.set i (some v)) H :=
  ⟨k.sr, k.ex, by simp [k.len], fun j e h => by
    rcases get_set_of h with ⟨rfl, q, hi⟩ | ⟨hij, q⟩
    · cases q
    · obtain ⟨u, a, b⟩ := k.val j e q
      exact ⟨u, by rw [List.getElem?_set_ne hij]; exact a, b⟩, fun j es h => by
    rcases get_set_of h with ⟨rfl, q, hi⟩ | ⟨hij, q⟩
    · cases q
    · obtain ⟨p, vs, a, b⟩ := k.own j es q
      exact ⟨p, vs, by rw [List.getElem?_set_ne hij]; exact a, b⟩, fun a b ds es p hab ha hb hp => by
    rcases get_set_of ha with ⟨_, q, _⟩ | ⟨h1, q⟩
    · cases q
    · rcases get_set_of hb with ⟨_, q', _⟩ | ⟨h2, q'⟩
      · cases q'
      · rw [List.getElem?_set_ne h1] at hp
        rw [List.getElem?_set_ne h2]
        exact k.ap a b ds es p hab q q' hp⟩
/-- a new list becomes the def's own -/
theorem StR.setOwn {Rf : Hp} {s : SEnv} {w : W} {σ : L2.St} {H : Hp} (k : StR K F Rf0 Rf ad s w σ H) {i : Nat} {a : Addr} {vs : List V} {ds : List LL.D} (ha : H a = some (.lst vs)) (r : RpAll K F ad vs ds) (fa : F a = none) (ra : Rf a = none)
    (na : ∀ (n : Nat) (p : Addr × Addr), ad[n]? = some p → p.1 ≠ a ∧ p.2 ≠ a) : StR K F Rf0 (upd Rf a (.lst vs)) ad (s.set i (.own ds)) w (σ.set i (some (.ref a))) H := by
  have r0 : Rf0 a = none := by
    cases e : Rf0 a with
    | none => rfl
    | some u => rw [k.ex _ _ e] at ra; cases ra
  have keep : ∀ p o, Rf p = some o → upd Rf a (.lst vs) p = some o := fun p o e => by rw [upd_ne (fun q => by rw [q, ra] at e; cases e)]; exact e
  refine ⟨⟨k.sr.fx, fun p o e => ?_, fun p o e => ?_, ⟨k.sr.wk.len, k.sr.wk.cell, fun n p h => ?_, k.sr.wk.apart⟩⟩, fun p o e => keep p o (k.ex p o e), by simp [k.len], fun j e h => ?_, fun j es h => ?_, fun b c es fs p hbc hb hc hp => ?_⟩
  · by_cases q : p = a
    · subst q; rw [upd_same] at e; cases e; exact ha
    · rw [upd_ne q] at e; exact k.sr.rx _ _ e
  · by_cases q : p = a
    · subst q; exact fa
    · rw [upd_ne q] at e; exact k.sr.dj _ _ e
  · obtain ⟨n1, n2⟩ := na n p h
    obtain ⟨x, y, z, t⟩ := k.sr.wk.f1 n p h
    exact ⟨x, y, by rw [upd_ne n1]; exact z, by rw [upd_ne n2]; exact t⟩
  · rcases get_set_of h with ⟨rfl, q, hi⟩ | ⟨hij, q⟩
    · cases q
    · obtain ⟨u, x, y⟩ := k.val j e q
      exact ⟨u, by rw [List.getElem?_set_ne hij]; exact x, y⟩
  · rcases get_set_of h with ⟨rfl, q, hi⟩ | ⟨hij, q⟩
    · cases q
      exact ⟨a, vs, by rw [List.getElem?_set_self (by rw [← k.len]; exact hi)], upd_same, r, r0⟩
    · obtain ⟨p, ws, x, y, z⟩ := k.own j es q
      exact ⟨p, ws, by rw [List.getElem?_set_ne hij]; exact x, keep _ _ y, z⟩
  · have other : ∀ {j : Nat} {es : List LL.D} {p : Addr}, s[j]? = some (Slot.own es) → σ[j]? = some (some (V.ref p)) → p ≠ a := fun {j es p} h1 h2 q => by
      obtain ⟨p', ws, x, y, _⟩ := k.own j es h1
      rw [h2] at x
      cases x
      rw [q, ra] at y; cases y
    rcases get_set_of hb with ⟨rfl, q, hi⟩ | ⟨h1, q⟩
    · cases q
      rw [List.getElem?_set_self (by rw [← k.len]; exact hi)] at hp
      cases hp
      rcases get_set_of hc with ⟨rfl, _, _⟩ | ⟨h2, q'⟩
      · exact absurd rfl hbc
      · rw [List.getElem?_set_ne h2]
        intro z
        exact other q' z rfl
    · rw [List.getElem?_set_ne h1] at hp
      rcases get_set_of hc with ⟨rfl, q', hi⟩ | ⟨h2, q'⟩
      · rw [List.getElem?_set_self (by rw [← k.len]; exact hi)]
        intro z
        cases z
        exact other q hp rfl
      · rw [List.getElem?_set_ne h2]
        exact k.ap b c es fs p hbc q q' hp
/-- an own list changes -/
theorem StR.redo {Rf : Hp} {s : SEnv} {w : W} {σ : L2.St} {H : Hp} (k : StR K F Rf0 Rf ad s w σ H) {i : Nat} {p : Addr} {vs vs' : List V} {ds ds' : List LL.D} (hs : s[i]? = some (.own ds)) (hp : σ[i]? = some (some (.ref p))) (hv : Rf p = some (.lst vs))
    (r : RpAll K F ad vs' ds') (r0 : Rf0 p = none) : StR K F Rf0 (upd Rf p (.lst vs')) ad (s.set i (.own ds')) w σ (upd H p (.lst vs')) := by
  have e0 : upd Rf p (.lst vs) = Rf := by
    funext a
    by_cases q : a = p
    · subst q; rw [upd_same]; exact hv.symm
    · rw [upd_ne q]
  have sr : SR F (upd Rf p (.lst vs)) ad w H := by rw [e0]; exact k.sr
  refine ⟨sr.redo, fun a o e => ?_, by simp [k.len], fun j e h => ?_, fun j es h => ?_, fun b c es fs q hbc hb hc hq => ?_⟩
  · rw [upd_ne (fun q => by rw [q, r0] at e; cases e)]; exact k.ex _ _ e
  · rcases get_set_of h with ⟨rfl, q, hi⟩ | ⟨hij, q⟩
    · cases q
    · exact k.val j e q
  · rcases get_set_of h with ⟨rfl, q, hi⟩ | ⟨hij, q⟩
    · cases q
      exact ⟨p, vs', hp, upd_same, r, r0⟩
    · obtain ⟨p', ws, x, y, z⟩ := k.own j es q
      refine ⟨p', ws, x, ?_, z⟩
      rw [upd_ne (fun e => by rw [e] at x; exact k.ap i j ds es p hij hs q hp x)]
      exact y
  · have s' : ∀ {j : Nat} {fs : List LL.D}, (s.set i (.own ds'))[j]? = some (Slot.own fs) → ∃ gs, s[j]? = some (Slot.own gs) := fun {j fs} h => by
      rcases get_set_of h with ⟨rfl, _, _⟩ | ⟨_, q⟩
      · exact ⟨ds, hs⟩
      · exact ⟨fs, q⟩
    obtain ⟨g1, h1⟩ := s' hb
    obtain ⟨g2, h2⟩ := s' hc
    exact k.ap b c g1 g2 q hbc h1 h2 hq
theorem names_set {Rf : Hp} {w : W} {H : Hp} : ∀ (is : List Nat) (vs : List V) (ds : List LL.D) (s s' : SEnv) (σ : L2.St) (Q : L2.St → Hp → Prop), StR K F Rf0 Rf ad s w σ H → RpAll K F ad vs ds → setTs is ds s = some s' →
    (∀ σ', StR K F Rf0 Rf ad s' w σ' H → Q σ' H) → gNames is vs σ H Q
  | [], vs, ds, s, s', σ, Q, n, r, e, k => by
    cases ds with
    | nil =>
      cases e
      exact ⟨r.nil_of, k σ n⟩
    | cons _ _ => cases e
  | i :: is, vs, ds, s, s', σ, Q, n, r, e, k => by
    cases ds with
    | nil => cases e
    | cons d ds =>
      cases vs with
      | nil => exact absurd r.1 (by simp)
      | cons v vs =>
        obtain ⟨d', es, e', r1, r2⟩ := r.uncons
        cases e'
        exact ⟨v, vs, rfl, names_set is vs ds _ s' _ Q (n.set r1) r2 e k⟩
theorem setTs_len : ∀ {is : List Nat} {ds : List LL.D} {s s' : SEnv}, setTs is ds s = some s' → ds.length = is.length
  | [], [], _, _, _ => rfl
  | _ :: is, _ :: ds, s, s', h => by
    have := setTs_len (is := is) (ds := ds) h
    simp [this]
  | [], _ :: _, _, _, h => by cases h
  | _ :: _, [], _, _, h => by cases h
theorem gT_set {Rf : Hp} {s s' : SEnv} {w : W} {σ : L2.St} {H : Hp} {tg : Tg} {v : V} {d : LL.D} {Q : L2.St → Hp → Prop} (n : StR K F Rf0 Rf ad s w σ H) (r : Rp K F ad v d) (e : setT tg d s = some s') (k : ∀ σ', StR K F Rf0 Rf ad s' w σ' H → Q σ' H) : gT K.1 tg v σ H Q := by
  cases tg with
  | one i =>
    cases e
    exact k _ (n.set r)
  | many is =>
    cases d with
    | tup ds =>
      obtain ⟨a, vs, rfl, h1, k1⟩ := r.tup_inv
      exact ⟨a, vs, rfl, ex_t n.sr.fx h1, by rw [k1.1]; exact setTs_len e, names_set is vs ds s s' σ Q n k1 e k⟩
    | _ => cases e
end
end LL
/-! == LL15 == -/
set_option Elab.async false
set_option linter.all false
set_option maxRecDepth 100000
set_option maxHeartbeats 4000000
/-! LL, part 15: statements of the text, one by one -/
namespace LL
open PySem PySem.Spec PyProof.Rows L2

structure SOk (T : Tab) (N : List Str) (sc : Scope) (cad : Nat → Addr) (Φ : Fns) (E : XK) (X : Cx) : Prop where
  ok : XOk T N cad Φ X
  sce : X.env.scope = sc
  fn : ∀ x, X.fn x = true
  kind : sc.kind = .function
  po : PassesOwn (model X.prog X.w) X.A X.env X.xe
  tk : Takes X (WS E)
def rdS (K : KP) (cad : Nat → Addr) (Φ : Fns) (n : Nat) (fr : Bool) (E : XK) (s : LS) : TS := fun Z σ H => ∃ F Rf0 Rf ad se w, StR K F Rf0 Rf ad se w σ H ∧ PostS K cad fr Rf0 E F ad (exec Φ n s se w) Z
def rdSs (K : KP) (cad : Nat → Addr) (Φ : Fns) (n : Nat) (fr : Bool) (E : XK) (s : LSs) : TS := fun Z σ H => ∃ F Rf0 Rf ad se w, StR K F Rf0 Rf ad se w σ H ∧ PostS K cad fr Rf0 E F ad (execs Φ n s se w) Z

/-! ### what is asked -/
def locB (sc : Scope) (y : Str) : Bool := match sc.names.lookup y with
  | some .local => true
  | _ => false
/-- the new list goes straight to the name -/
def swT (sc : Scope) (y : Str) (py : Pos) : Expr → Bool
  | .ListComp _ _ s p => locB sc y && py.line == p.line && !(s.names.any fun (n, k) => n == y && (k == .local || k == .cell))
  | _ => false
def swOk : Expr → Bool
  | .SetComp _ _ _ _ => false
  | .DictComp _ _ _ _ _ => false
  | _ => true
def notLc : Expr → Bool
  | .ListComp _ _ _ _ => false
  | _ => true
def isLcE : LE → Bool
  | .comp _ _ _ _ _ => true
  | _ => false
/-- a tuple's names are stored as they come -/
def notLocal (sc : Scope) : Expr → Bool
  | .Name y _ => !locB sc y
  | _ => true
def tupOk (sc : Scope) (ts : List Expr) : Expr → Bool
  | .Tuple vs _ _ => vs.all (foldedForSure 8) || !(ts.length == 2 || ts.length == 3) || ts.any (notLocal sc)
  | _ => true
def tgtOk (sc : Scope) (x : Expr) : Expr → Bool
  | .Tuple ts _ _ => tupOk sc ts x
  | _ => true
def vName (N : List Str) (sc : Scope) (i : Nat) : Expr → Bool
  | .Name y _ => hasN N i y && setb sc y && !(y == ("__debug__" : Str)) && !(y == ("__classdict__" : Str))
  | _ => false
theorem swOk_false {sc : Scope} {X : Cx} (hs : X.env.scope = sc) {y : Str} {py : Pos} {x : Expr} {l : Nat} (h1 : swOk x = true) (h2 : swT sc y py x = false) : swapsWith x (some (.Name y py)) l X.env = pure false := by
  cases x with
  | ListComp e g s p =>
    unfold swT locB at h2
    unfold swapsWith
    have kl : X.env.kindOf y = sc.names.lookup y := by rw [← hs]; rfl
    show (pure (X.env.blockKind == .function && X.env.kindOf y == some .local && py.line == p.line && !(s.names.any fun (n, k) => n == y && (k == .local || k == .cell))) : Sem Bool) = pure false
    rw [kl]
    congr 1
    revert h2
    cases e1 : sc.names.lookup y with
    | none => intro _; simp
    | some k =>
      cases k with
      | «local» =>
        intro h2
        simp only [Bool.true_and] at h2
        rw [Bool.and_assoc, h2, Bool.and_false]
      | _ => intro _; simp
  | SetComp _ _ _ _ => cases h1
  | DictComp _ _ _ _ _ => cases h1
  | _ => rfl
theorem sw_not_name {X : Cx} {t x : Expr} {l : Nat} (h1 : swOk x = true) (ht : ∀ y p, t ≠ .Name y p) : swapsWith x (some t) l X.env = pure false := by
  cases x with
  | SetComp _ _ _ _ => cases h1
  | DictComp _ _ _ _ _ => cases h1
  | ListComp _ _ _ _ =>
    cases t with
    | Name y p => exact absurd rfl (ht y p)
    | _ => rfl
  | _ => rfl
theorem sw_drop {X : Cx} {x : Expr} {l : Nat} (h1 : swOk x = true) (h2 : notLc x = true) : swapsWith x none l X.env = pure false := by
  cases x with
  | SetComp _ _ _ _ => cases h1
  | DictComp _ _ _ _ _ => cases h1
  | ListComp _ _ _ _ => cases h2
  | _ => rfl
theorem filterMap_lt {α β : Type} {f : α → Option β} : ∀ {l : List α}, (∃ a ∈ l, f a = none) → (l.filterMap f).length ≠ l.length
  | [], ⟨a, h, _⟩ => by cases h
  | x :: l, ⟨a, h, e⟩ => by
    rw [List.filterMap_cons]
    cases q : f x with
    | none =>
      have := List.length_filterMap_le f l
      simp only [List.length_cons]
      omega
    | some y =>
      simp only [List.length_cons]
      rcases List.mem_cons.mp h with rfl | h
      · rw [e] at q; cases q
      · have := filterMap_lt ⟨a, h, e⟩
        omega
theorem stores_tup {sc : Scope} {X : Cx} (hs : X.env.scope = sc) {ts : List Expr} {k : Nat} {p : Pos} {x : Expr} (h : tupOk sc ts x = true) : swappedStores [.Tuple ts k p] x X.env = pure none := by
  cases x with
  | Tuple vs k2 p2 =>
    unfold tupOk at h
    unfold swappedStores
    simp only [Bool.or_eq_true] at h
    simp only [pure_bind]
    rcases h with (h | h) | h
    · rw [h]
      simp only [if_true]
      split
      · rfl
      · split
        · rfl
        · split <;> rfl
    · rw [show (!(ts.length == 2 || ts.length == 3)) = true from h]
      rfl
    · obtain ⟨t, ht, hn⟩ := any_elim h
      split
      · rfl
      · split
        · rfl
        · split
          · rfl
          · rename_i hc
            exfalso
            apply hc
            rw [Bool.or_eq_true]
            left
            rw [bne_iff_ne]
            refine filterMap_lt ⟨t, ht, ?_⟩
            cases t with
            | Name y py =>
              have kl : X.env.kindOf y = sc.names.lookup y := by rw [← hs]; rfl
              have : (X.env.kindOf y == some .local) = false := by
                rw [kl]
                have hn : (!locB sc y) = true := hn
                unfold locB at hn
                revert hn
                cases sc.names.lookup y with
                | none => intro _; rfl
                | some k => cases k <;> intro hn <;> first | rfl | cases hn
              show (if (X.env.kindOf y == some .local && _) = true then some y else none) = none
              rw [this]; rfl
            | _ => rfl
  | _ => rfl
theorem assign_sub {X : Cx} {b z : Expr} {p : Pos} (h : notSlice z = true) (v : Value) : assign (.Subscript b z p) X.env v = (do
      let ov ← holding [v] (eval b X.env)
      let iv ← holding [v, ov] (eval z X.env)
      standAt p
      holding [v, ov, iv] (setItem ov iv v)
      release [v, ov, iv] []) := by
  cases z <;> first | rfl | exact absurd h (by simp [notSlice])
theorem list_tyV {K : PySem.W.Frag} {H : Hp} {p : Addr} {vs : List V} (h : H p = some (.lst vs)) : tyV K "list" (.ref p) H := .inl ⟨rfl, vs, .inl (.inl h)⟩
theorem ownAt_of {s : SEnv} {i : Nat} {ds : List D} (h : ownAt s i = some ds) : s[i]? = some (.own ds) := by
  unfold ownAt at h
  split at h
  · rename_i e; cases h; exact e
  · cases h
theorem valAt_of {s : SEnv} {i : Nat} {d : D} (h : valAt s i = some d) : s[i]? = some (.val d) := by
  unfold valAt at h
  split at h
  · rename_i e; cases h; exact e
  · cases h

section
variable {T : Tab} {N : List Str} {sc : Scope} {cad : Nat → Addr} {Φ : Fns} {E : XK} {X : Cx} {n : Nat} {fr : Bool} {pos : Pos}
theorem SOk.scok (o : SOk T N sc cad Φ E X) : ScOk sc X := ScOk.self o.sce o.fn
theorem SOk.snd (o : SOk T N sc cad Φ E X) {e : LE} {x : Expr} (h : chk T N e sc x = true) : Snd T X cad (WS E) Φ e x := LL.snd e sc x X (WS E) o.ok o.scok o.tk h
/-- a def's own name, as it is read -/
theorem SOk.name (o : SOk T N sc cad Φ E X) {i : Nat} {x : Expr} (h : vName N sc i x = true) : ∃ y p, x = .Name y p ∧ PE X x (tVar i) ∧ PG X x (gName i) ∧ X.N[i]? = some y ∧ Loc X.env.scope y := by
  unfold vName at h
  split at h
  · rename_i y p
    simp only [Bool.and_eq_true, Bool.not_eq_true'] at h
    obtain ⟨⟨⟨h1, h2⟩, h3⟩, h4⟩ := h
    have hN : X.N[i]? = some y := by rw [o.ok.N]; exact hasN_eq h1
    have hl := (o.scok.set h2).1
    have hv : Vis X.env.scope y := by
      rcases hl with k | k
      · exact .inl k
      · exact .inr (.inl k)
    exact ⟨y, p, rfl, pe_var hN hv h3 h4, pg_name o.ok.nd hN hl (.inl (o.fn y)), hN, hl⟩
  · cases h
/-- name = e: both ways -/
theorem set_name (o : SOk T N sc cad Φ E X) {i : Nat} {y : Str} {py : Pos} {x : Expr} {e : LE} {frE : Bool} (hf : frE = true → okFr T e = true) (hn : chkN N sc i (.Name y py) = true) (h1 : swOk x = true) (hc : chk T N e sc x = true) :
    ∃ te : TE, PS X (.Assign [.Name y py] x pos) (tAsg te (gName i)) ∧ ∀ σ H Q, rdE (kp X) cad (WS E) Φ frE e σ H Q → te σ H Q := by
  have pg := s_name o.ok o.scok hn
  cases hsw : swT sc y py x with
  | false => exact ⟨_, ps_asg ((o.snd hc).pe frE hf) pg (swOk_false (l := pos.line) o.sce h1 hsw) rfl rfl, fun _ _ _ h => h⟩
  | true =>
    cases x with
    | ListComp z gs s p =>
      have lc : ∃ tg it cond elt own, e = .comp tg it cond elt own := by
        cases e <;> first | exact ⟨_, _, _, _, _, rfl⟩ | (exfalso; rw [chk.eq_def] at hc; dsimp only at hc; cases hc)
      obtain ⟨tg, it, cond, elt, own, rfl⟩ := lc
      have k := o.scok
      have ok := o.ok
      have tk := o.tk
      rw [chk.eq_def] at hc; dsimp only at hc
      split at hc
      · rename_i z' t iter ifs s' p' heq
        cases heq
        simp only [Bool.and_eq_true] at hc
        obtain ⟨⟨⟨⟨⟨⟨⟨h1, h2⟩, h3⟩, h4⟩, h5⟩, h6⟩, h7⟩, h8⟩ := hc
        have hb : BlkOk X.N X.env.scope s (ownP N own) := k.blkOk (by rw [ok.N]; exact blkOk_by h1)
        have hi := sndi it sc iter t X (WS E) ok k tk h3 (fun hn => by rw [hn] at h4; simpa using h4)
        have hg : ∀ (s1 : Shared) (H1 : Hp) (C : Addr) (cl : List (Str × Addr)) (fp : List Addr), PG (X.blk s1 H1 s (compEnvC s cl C X.env) fp) t (gT X.K tg) := fun (s1 : Shared) (H1 : Hp) (C : Addr) (cl : List (Str × Addr)) (fp : List Addr) => s_tg (ok.blk s1 H1 s C cl fp) (ScOk.blk s1 H1 s C cl fp) h2
        have he : ∀ (s1 : Shared) (H1 : Hp) (C : Addr) (cl : List (Str × Addr)) (fp : List Addr), PE (X.blk s1 H1 s (compEnvC s cl C X.env) fp) z (rdE (kp X) cad W0 Φ false elt) := fun (s1 : Shared) (H1 : Hp) (C : Addr) (cl : List (Str × Addr)) (fp : List Addr) => (snd elt s z _ W0 (ok.blk s1 H1 s C cl fp) (ScOk.blk s1 H1 s C cl fp) takesN h7).val
        obtain ⟨tt, hpt, key⟩ := s_compT (X := X) (cad := cad) (Wx := WS E) (Φ := Φ) (fr := frE) (elt := z) (tg := t) (iter := iter) (ifs := ifs) (scope := s) (own := ownP N own) (tgl := tg) (it := it) (cond := cond) (el := elt) ok.calm ok.nd
          hi hb hg
          (by
            cases ifs with
            | nil => exact .inl ⟨rfl, h6⟩
            | cons c r =>
              cases r with
              | cons _ _ => cases h6
              | nil =>
                simp only [Bool.and_eq_true, Bool.not_eq_true'] at h6
                exact .inr ⟨c, rfl, h6.1, fun s1 H1 C cl fp => (snd cond s c _ W0 (ok.blk s1 H1 s C cl fp) (ScOk.blk s1 H1 s C cl fp) takesN h6.2).pt⟩)
          he (unfolded h5) (fun i hi => by
            rw [ownP_map]
            have := List.all_eq_true.mp h8 i hi
            obtain ⟨j, hj, e⟩ := any_elim this
            rw [beq_iff_eq.mp e]; exact hj)
        unfold swT at hsw
        simp only [Bool.and_eq_true, Bool.not_eq_true'] at hsw
        obtain ⟨⟨w1, w2⟩, w3⟩ := hsw
        have hloc : X.env.scope.names.lookup y = some .local := by
          rw [o.sce]
          unfold locB at w1
          split at w1
          · assumption
          · cases w1
        have hN : X.N[i]? = some y := by
          rw [ok.N]
          unfold chkN at hn
          rw [Bool.and_eq_true] at hn
          exact hasN_eq hn.1
        refine ⟨_, ps_setLc ok.calm ok.nd hN hloc (sw_true (by rw [o.sce]; exact o.kind) hloc w2 w3) hi hb hg hpt he (unfolded h5), fun σ H Q h => ?_⟩
        rw [ownP_map] at key ⊢
        exact key σ H Q h
      · cases hc
    | _ => cases hsw
theorem tgt_cases {tg : Tg} {t : Expr} (h : chkT N sc tg t = true) : (∃ i y p, tg = .one i ∧ t = .Name y p ∧ chkN N sc i t = true) ∨ ∃ is ts k p, tg = .many is ∧ t = .Tuple ts k p := by
  unfold chkT at h
  split at h
  · rename_i i
    unfold chkN at h
    split at h
    · exact .inl ⟨i, _, _, rfl, rfl, by unfold chkN; exact h⟩
    · cases h
  · exact .inr ⟨_, _, _, _, rfl, rfl⟩
  · cases h
theorem setT_one {i : Nat} {d : D} {s : SEnv} : setT (.one i) d s = some (s.set i (.val d)) := rfl
/-- target = e -/
theorem st_set (o : SOk T N sc cad Φ E X) {kp' fz : List Nat} {tg : Tg} {e : LE} {t x : Expr} (ht : chkT N sc tg t = true) (h1 : swOk x = true) (hc : chk T N e sc x = true) (hu : tgtOk sc x t = true) :
    PS X (.Assign [t] x pos) (rdS (kp X) cad Φ n fr E (.set kp' fz tg e)) := by
  have fin : ∀ (Z : Ends) (σ : L2.St) (H : Hp), rdS (kp X) cad Φ n fr E (.set kp' fz tg e) Z σ H → rdE (kp X) cad (WS E) Φ false e σ H fun v H1 => gT X.K tg v σ H1 Z.nx := fun Z σ H ⟨F, Rf0, Rf, ad, se, w, st, p⟩ => by
    rw [exec.eq_def] at p; dsimp only at p
    refine evS_rd (frE := false) st p fun d w1 v H1 F1 R1 ad1 x1 l1 s1 r1 p1 => ?_
    dsimp only at p1
    cases es : setT tg d (frz fz se) with
    | none => rw [es] at p1; exact p1.elim
    | some s' =>
      rw [es] at p1
      exact gT_set (K := kp X) s1 r1.rp es fun σ' s2 => PostS.here p1 s2
  rcases tgt_cases ht with ⟨i, y, py, rfl, rfl, hn⟩ | ⟨is, ts, k, p, rfl, rfl⟩
  · obtain ⟨te, ps, ht⟩ := set_name (frE := false) o (fun h => nomatch h) hn h1 hc
    exact PS.imp ps fun Z σ H h => ht σ H _ (fin Z σ H h)
  · exact PS.imp (ps_asg (o.snd hc).val (s_tg o.ok o.scok ht) (sw_not_name (X := X) (t := .Tuple ts k p) (l := pos.line) h1 (fun _ _ e => by cases e)) (stores_tup o.sce hu) rfl) fin
/-- name = a new list of its own -/
theorem st_new (o : SOk T N sc cad Φ E X) {fz : List Nat} {i : Nat} {e : LE} {y : Str} {py : Pos} {x : Expr} (hn : chkN N sc i (.Name y py) = true) (h1 : swOk x = true) (hc : chk T N e sc x = true) (hf : okFr T e = true) :
    PS X (.Assign [.Name y py] x pos) (rdS (kp X) cad Φ n fr E (.new fz i e)) := by
  obtain ⟨te, ps, ht⟩ := set_name (frE := true) o (fun _ => hf) hn h1 hc
  refine PS.imp ps fun Z σ H ⟨F, Rf0, Rf, ad, se, w, st, p⟩ => ht σ H _ ?_
  rw [exec.eq_def] at p; dsimp only at p
  refine evS_rd (frE := true) st p fun d w1 v H1 F1 R1 ad1 x1 l1 s1 r1 p1 => ?_
  cases d with
  | lst ds =>
    obtain ⟨a, vs, rfl, ha, r, fa, ra, na⟩ := r1
    exact PostS.here p1 (s1.setOwn ha r fa ra na)
  | _ => exact False.elim p1
/-- name.append(e) -/
theorem st_app (o : SOk T N sc cad Φ E X) {kp' fz : List Nat} {i : Nat} {e : LE} {b x : Expr} {apos cpos : Pos} (hb : vName N sc i b = true) (hx : notStar x = true) (hc : chk T N e sc x = true) (hl : (apos.endLine == cpos.line) = true) :
    PS X (.Expr (.Call (.Attribute b "append" apos) [x] [] cpos) pos) (rdS (kp X) cad Φ n fr E (.app kp' fz i e)) := by
  obtain ⟨y, py, rfl, pv, _, _, _⟩ := o.name hb
  have pa := pa_cons (o.snd hc).val pa_nil (star_cons hx)
  have hfew : ((backTo cpos (starEach [x] X.env)).all (fun x => !x.1) && (backToKw cpos (keywordEach [] X.env)).all (fun x => x.1.isSome) && decide ([x].length + ([] : List Keyword).length + (if ([] : List Keyword).isEmpty then 0 else 1) < 30)) = true := by
    rw [star_cons hx]; rfl
  refine PS.imp (ps_expr (pe_bm PySem.F.plainAttrs_list PySem.F.slot_list_append PySem.F.type_list_append mt_append pv pa rfl hfew hl (star_cons hx) rfl) rfl) fun Z σ H ⟨F, Rf0, Rf, ad, se, w, st, p⟩ => ?_
  rw [exec.eq_def] at p; dsimp only at p
  cases eo : ownAt (frz fz se) i with
  | none => rw [eo] at p; exact p.elim
  | some ds =>
    rw [eo] at p; dsimp only at p
    obtain ⟨F0, R0, x0, st0, _, _⟩ := st.frz fz
    obtain ⟨q, vs, q1, q2, _, _⟩ := st0.own i ds (ownAt_of eo)
    refine ⟨.ref q, q1, list_tyV (st0.sr.rx _ _ q2), ?_⟩
    refine evS_rd (frE := false) st p fun d w1 v H1 F1 R1 ad1 x1 l1 s1 r1 p1 => ?_
    obtain ⟨q', vs', g1, g2, g3, g4⟩ := s1.own i ds (ownAt_of eo)
    rw [q1] at g1
    cases g1
    dsimp only at p1
    by_cases hz : ds.length < big
    · rw [if_pos hz] at p1
      exact ⟨q, vs', v, rfl, rfl, s1.sr.rx _ _ g2, by rw [g3.1, sizeLine_eq]; unfold big at hz; exact hz, PostS.here p1 (s1.redo (ownAt_of eo) q1 g2 (g3.append (.cons r1.rp .nil)) g4)⟩
    · rw [if_neg hz] at p1
      exact p1.elim
/-- name.extend(e) -/
theorem st_ext (o : SOk T N sc cad Φ E X) {fz : List Nat} {i : Nat} {e : LE} {b x : Expr} {apos cpos : Pos} (hb : vName N sc i b = true) (hx : notStar x = true) (hc : chk T N e sc x = true) (hl : (apos.endLine == cpos.line) = true) :
    PS X (.Expr (.Call (.Attribute b "extend" apos) [x] [] cpos) pos) (rdS (kp X) cad Φ n fr E (.ext fz i e)) := by
  obtain ⟨y, py, rfl, pv, _, _, _⟩ := o.name hb
  have pa := pa_cons (o.snd hc).val pa_nil (star_cons hx)
  have hfew : ((backTo cpos (starEach [x] X.env)).all (fun x => !x.1) && (backToKw cpos (keywordEach [] X.env)).all (fun x => x.1.isSome) && decide ([x].length + ([] : List Keyword).length + (if ([] : List Keyword).isEmpty then 0 else 1) < 30)) = true := by
    rw [star_cons hx]; rfl
  refine PS.imp (ps_expr (pe_bm PySem.F.plainAttrs_list PySem.F.slot_list_extend PySem.F.type_list_extend mt_extend pv pa rfl hfew hl (star_cons hx) rfl) rfl) fun Z σ H ⟨F, Rf0, Rf, ad, se, w, st, p⟩ => ?_
  rw [exec.eq_def] at p; dsimp only at p
  cases eo : ownAt (frz fz se) i with
  | none => rw [eo] at p; exact p.elim
  | some ds =>
    rw [eo] at p; dsimp only at p
    obtain ⟨F0, R0, x0, st0, _, _⟩ := st.frz fz
    obtain ⟨q, vs, q1, q2, _, _⟩ := st0.own i ds (ownAt_of eo)
    refine ⟨.ref q, q1, list_tyV (st0.sr.rx _ _ q2), ?_⟩
    refine evS_rd (frE := false) st p fun d w1 v H1 F1 R1 ad1 x1 l1 s1 r1 p1 => ?_
    obtain ⟨q', vs', g1, g2, g3, g4⟩ := s1.own i ds (ownAt_of eo)
    rw [q1] at g1
    cases g1
    cases d with
    | lst es =>
      dsimp only at p1
      by_cases hz : ds.length + es.length ≤ big
      · rw [if_pos hz] at p1
        obtain ⟨a, ws, rfl, h1, k1⟩ := r1.rp.lst_inv
        exact ⟨q, a, vs', ws, rfl, rfl, s1.sr.rx _ _ g2, s1.sr.fx _ _ h1, by rw [g3.1, k1.1, sizeLine_eq]; unfold big at hz; exact hz, PostS.here p1 (s1.redo (ownAt_of eo) q1 g2 (g3.append k1) g4)⟩
      · rw [if_neg hz] at p1
        exact p1.elim
    | _ => exact False.elim p1
theorem last_of {K : KP} {F : Hp} {ad : Ads} {vs : List V} {ds : List D} (r : RpAll K F ad vs ds) {d : D} (h : ds[ds.length - 1]? = some d) : ∃ v, vs[vs.length - 1]? = some v ∧ Rp K F ad v d := by
  rw [r.1]; exact r.get h
/-- name.pop() -/
theorem st_pop (o : SOk T N sc cad Φ E X) {i : Nat} {b : Expr} {apos cpos : Pos} (hb : vName N sc i b = true) (hl : (apos.endLine == cpos.line) = true) :
    PS X (.Expr (.Call (.Attribute b "pop" apos) [] [] cpos) pos) (rdS (kp X) cad Φ n fr E (.pop none i)) := by
  obtain ⟨y, py, rfl, pv, _, _, _⟩ := o.name hb
  refine PS.imp (ps_expr (pe_bm0 PySem.F.plainAttrs_list PySem.F.slot_list_pop PySem.F.type_list_pop mt_pop pv rfl hl) rfl) fun Z σ H ⟨F, Rf0, Rf, ad, se, w, st, p⟩ => ?_
  rw [exec.eq_def] at p; dsimp only at p
  cases eo : ownAt se i with
  | none => rw [eo] at p; exact p.elim
  | some ds =>
    rw [eo] at p; dsimp only at p
    obtain ⟨q, vs, q1, q2, q3, q4⟩ := st.own i ds (ownAt_of eo)
    cases ed : ds[ds.length - 1]? with
    | none => rw [ed] at p; exact p.elim
    | some d =>
      rw [ed] at p
      obtain ⟨v, hv, rv⟩ := last_of q3 ed
      exact ⟨.ref q, q1, list_tyV (st.sr.rx _ _ q2), q, vs, v, rfl, rfl, st.sr.rx _ _ q2, hv, PostS.here p (st.redo (ownAt_of eo) q1 q2 q3.dropLast q4)⟩
theorem st_popT (o : SOk T N sc cad Φ E X) {i : Nat} {tg : Tg} {b t : Expr} {apos cpos : Pos} (hb : vName N sc i b = true) (ht : chkT N sc tg t = true) (hl : (apos.endLine == cpos.line) = true) :
    PS X (.Assign [t] (.Call (.Attribute b "pop" apos) [] [] cpos) pos) (rdS (kp X) cad Φ n fr E (.pop (some tg) i)) := by
  obtain ⟨y, py, rfl, pv, _, _, _⟩ := o.name hb
  have base : PS X (.Assign [t] (.Call (.Attribute (.Name y py) "pop" apos) [] [] cpos) pos) (tAsg (tBM0 X.K "list" rPop (tVar i)) (gT X.K tg)) := by
    have pg := s_tg o.ok o.scok ht
    rcases tgt_cases ht with ⟨j, z, pz, rfl, rfl, hn⟩ | ⟨is, ts, k, p, rfl, rfl⟩
    · exact ps_asg (pe_bm0 PySem.F.plainAttrs_list PySem.F.slot_list_pop PySem.F.type_list_pop mt_pop pv rfl hl) pg rfl rfl rfl
    · exact ps_asg (pe_bm0 PySem.F.plainAttrs_list PySem.F.slot_list_pop PySem.F.type_list_pop mt_pop pv rfl hl) pg rfl rfl rfl
  refine PS.imp base fun Z σ H ⟨F, Rf0, Rf, ad, se, w, st, p⟩ => ?_
  rw [exec.eq_def] at p; dsimp only at p
  cases eo : ownAt se i with
  | none => rw [eo] at p; exact p.elim
  | some ds =>
    rw [eo] at p; dsimp only at p
    obtain ⟨q, vs, q1, q2, q3, q4⟩ := st.own i ds (ownAt_of eo)
    cases ed : ds[ds.length - 1]? with
    | none => rw [ed] at p; exact p.elim
    | some d =>
      rw [ed] at p; dsimp only at p
      obtain ⟨v, hv, rv⟩ := last_of q3 ed
      cases es : setT tg d (se.set i (.own ds.dropLast)) with
      | none => rw [es] at p; exact p.elim
      | some s' =>
        rw [es] at p
        exact ⟨.ref q, q1, list_tyV (st.sr.rx _ _ q2), q, vs, v, rfl, rfl, st.sr.rx _ _ q2, hv, gT_set (K := kp X) (st.redo (ownAt_of eo) q1 q2 q3.dropLast q4) rv es fun σ' s2 => PostS.here p s2⟩
/-- name += e, a list of its own -/
theorem st_iadd (o : SOk T N sc cad Φ E X) {fz : List Nat} {i : Nat} {e : LE} {b x : Expr} (hb : vName N sc i b = true) (hc : chk T N e sc x = true) : PS X (.AugAssign b .Add x pos) (rdS (kp X) cad Φ n fr E (.iadd fz i e)) := by
  obtain ⟨y, py, rfl, pv, _, hN, hl⟩ := o.name hb
  refine PS.imp (ps_aug (ti := rExt2) o.ok.nd hN hl (o.snd hc).val (fun pins s σ H x y v u Q I r1 r2 h => iop_ext pins s σ H x y v u Q I r1 r2 h) (.inl (o.fn y))) fun Z σ H ⟨F, Rf0, Rf, ad, se, w, st, p⟩ => ?_
  rw [exec.eq_def] at p; dsimp only at p
  cases eo : ownAt (frz fz se) i with
  | none => rw [eo] at p; exact p.elim
  | some ds =>
    rw [eo] at p; dsimp only at p
    obtain ⟨F0, R0, x0, st0, _, _⟩ := st.frz fz
    obtain ⟨q, vs, q1, q2, _, _⟩ := st0.own i ds (ownAt_of eo)
    refine ⟨.ref q, q1, ?_⟩
    refine evS_rd (frE := false) st p fun d w1 v H1 F1 R1 ad1 x1 l1 s1 r1 p1 => ?_
    obtain ⟨q', vs', g1, g2, g3, g4⟩ := s1.own i ds (ownAt_of eo)
    rw [q1] at g1
    cases g1
    cases d with
    | lst es =>
      dsimp only at p1
      by_cases hz : ds.length + es.length ≤ big
      · rw [if_pos hz] at p1
        obtain ⟨a, ws, rfl, h1, k1⟩ := r1.rp.lst_inv
        refine ⟨q, a, vs', ws, rfl, rfl, s1.sr.rx _ _ g2, s1.sr.fx _ _ h1, by rw [g3.1, k1.1, sizeLine_eq]; unfold big at hz; exact hz, ?_⟩
        have s2 := s1.redo (ownAt_of eo) q1 g2 (g3.append k1) g4
        have e : σ.set i (some (V.ref q)) = σ := by
          apply List.ext_getElem?
          intro j
          by_cases hj : i = j
          · subst hj
            rw [List.getElem?_set_self (List.getElem?_eq_some_iff.mp q1).1]; exact q1.symm
          · rw [List.getElem?_set_ne hj]
        show Z.nx (σ.set i (some (V.ref q))) _
        rw [e]
        exact PostS.here p1 s2
      · rw [if_neg hz] at p1
        exact p1.elim
    | _ => exact False.elim p1
/-- name[ix] = e -/
theorem st_put (o : SOk T N sc cad Φ E X) {kp' fz : List Nat} {i : Nat} {ix e : LE} {b x z : Expr} {p2 : Pos} (hb : vName N sc i b = true) (h1 : swOk x = true) (hc : chk T N e sc x = true) (hi : chk T N ix sc z = true) (hsl : notSlice z = true) :
    PS X (.Assign [.Subscript b z p2] x pos) (rdS (kp X) cad Φ n fr E (.put kp' fz i ix e)) := by
  obtain ⟨y, py, rfl, pv, _, _, _⟩ := o.name hb
  refine PS.imp (ps_asg (o.snd hc).val (pg_sub pv (o.snd hi).val set_list (assign_sub hsl)) (sw_not_name (X := X) (t := .Subscript (.Name y py) z p2) (l := pos.line) h1 (fun _ _ e => by cases e)) rfl rfl) fun Z σ H ⟨F, Rf0, Rf, ad, se, w, st, p⟩ => ?_
  rw [exec.eq_def] at p; dsimp only at p
  cases eo : ownAt (frz fz se) i with
  | none => rw [eo] at p; exact p.elim
  | some ds =>
    rw [eo] at p; dsimp only at p
    refine evS_rd (frE := false) st p fun d w1 v H1 F1 R1 ad1 x1 l1 s1 r1 p1 => ?_
    obtain ⟨q, vs, q1, q2, q3, q4⟩ := s1.own i ds (ownAt_of eo)
    refine ⟨.ref q, q1, ?_⟩
    refine evI_rd s1 p1 fun k w2 H2 F2 R2 ad2 x2 l2 s2 p2 => ?_
    obtain ⟨q', vs', g1, g2, g3, g4⟩ := s2.own i ds (ownAt_of eo)
    rw [q1] at g1
    cases g1
    dsimp only at p2
    cases ek : ixN ds.length k with
    | none => rw [ek] at p2; exact p2.elim
    | some j =>
      rw [ek] at p2
      exact ⟨q, vs', k, j, rfl, rfl, s2.sr.rx _ _ g2, by rw [g3.1]; exact ek, PostS.here p2 (s2.redo (ownAt_of eo) q1 g2 (g3.set j (r1.rp.mono x2 l2)) g4)⟩
theorem augD_op {op : Op2} {x d z : D} (h : augD op x d = some z) : (op = .add ∧ ∃ i j, x = .int i ∧ d = .int j ∧ z = .int (i + j)) ∨ (op = .sub ∧ ∃ i j, x = .int i ∧ d = .int j ∧ z = .int (i - j)) := by
  unfold augD at h
  split at h
  · cases h; exact .inl ⟨rfl, _, _, rfl, rfl, rfl⟩
  · cases h; exact .inr ⟨rfl, _, _, rfl, rfl, rfl⟩
  · cases h
/-- name op= e -/
theorem st_aug (o : SOk T N sc cad Φ E X) {kp' fz : List Nat} {i : Nat} {op : Op2} {e : LE} {b x : Expr} (hop : op = .add ∨ op = .sub) (hb : vName N sc i b = true) (hc : chk T N e sc x = true) :
    PS X (.AugAssign b (opOf op) x pos) (rdS (kp X) cad Φ n fr E (.aug kp' fz op i e)) := by
  obtain ⟨y, py, rfl, pv, _, hN, hl⟩ := o.name hb
  have ho : ∃ f, PIp X (opOf op) (ipI f) ∧ ∀ x d z, augD op x d = some z → ∃ i j, x = .int i ∧ d = .int j ∧ z = .int (f i j) := by
    rcases hop with rfl | rfl
    · exact ⟨_, ip_add, fun x d z h => by
        rcases augD_op h with ⟨_, i, j, a, b, c⟩ | ⟨q, _⟩
        · exact ⟨i, j, a, b, c⟩
        · cases q⟩
    · exact ⟨_, ip_sub, fun x d z h => by
        rcases augD_op h with ⟨q, _⟩ | ⟨_, i, j, a, b, c⟩
        · cases q
        · exact ⟨i, j, a, b, c⟩⟩
  obtain ⟨f, hp, ha⟩ := ho
  refine PS.imp (ps_aug o.ok.nd hN hl (o.snd hc).val hp (.inl (o.fn y))) fun Z σ H ⟨F, Rf0, Rf, ad, se, w, st, p⟩ => ?_
  rw [exec.eq_def] at p; dsimp only at p
  cases eo : valAt (frz fz se) i with
  | none => rw [eo] at p; exact p.elim
  | some u =>
    rw [eo] at p; dsimp only at p
    obtain ⟨F0, R0, x0, st0, _, _⟩ := st.frz fz
    obtain ⟨uv, q1, q2⟩ := st0.val i u (valAt_of eo)
    refine ⟨uv, q1, ?_⟩
    refine evS_rd (frE := false) st p fun d w1 v H1 F1 R1 ad1 x1 l1 s1 r1 p1 => ?_
    dsimp only at p1
    cases ez : augD op u d with
    | none => rw [ez] at p1; exact p1.elim
    | some z =>
      rw [ez] at p1
      obtain ⟨a, c, rfl, rfl, rfl⟩ := ha _ _ _ ez
      exact ⟨a, c, q2.int_inv, r1.rp.int_inv, PostS.here p1 (s1.set (.int _))⟩
/-- e -/
theorem st_exp (o : SOk T N sc cad Φ E X) {kp' fz : List Nat} {e : LE} {x : Expr} (h1 : swOk x = true) (h2 : notLc x = true) (hc : chk T N e sc x = true) : PS X (.Expr x pos) (rdS (kp X) cad Φ n fr E (.exp kp' fz e)) := by
  refine PS.imp (ps_expr (o.snd hc).val (sw_drop h1 h2)) fun Z σ H ⟨F, Rf0, Rf, ad, se, w, st, p⟩ => ?_
  rw [exec.eq_def] at p; dsimp only at p
  exact evS_rd (frE := false) st p fun d w1 v H1 F1 R1 ad1 x1 l1 s1 r1 p1 => PostS.here p1 s1
theorem st_iff (o : SOk T N sc cad Φ E X) {kp' fz : List Nat} {c : LE} {a b : LSs} {x : Expr} {sa sb : List Stmt} (hc : chk T N c sc x = true) (ha : PSs X sa (rdSs (kp X) cad Φ n fr E a)) (hb : PSs X sb (rdSs (kp X) cad Φ n fr E b)) :
    PS X (.If x sa sb pos) (rdS (kp X) cad Φ n fr E (.iff kp' fz c a b)) := by
  refine PS.imp (ps_if (o.snd hc).pt ha hb) fun Z σ H ⟨F, Rf0, Rf, ad, se, w, st, p⟩ => ?_
  rw [exec.eq_def] at p; dsimp only at p
  refine evB_rd st p fun k w1 H1 F1 R1 ad1 x1 l1 s1 p1 => ?_
  cases k with
  | true => exact ite_tt ⟨F1, Rf0, R1, ad1, _, w1, s1, p1⟩
  | false => exact ite_ff ⟨F1, Rf0, R1, ad1, _, w1, s1, p1⟩
theorem st_whl (o : SOk T N sc cad Φ E X) {kp' fz : List Nat} {c : LE} {b : LSs} {x : Expr} {sb : List Stmt} (hc : chk T N c sc x = true) (hb : PSs X sb (rdSs (kp X) cad Φ n fr E b)) : PS X (.While x sb [] pos) (rdS (kp X) cad Φ n fr E (.whl kp' fz c b)) := by
  refine PS.imp (ps_while o.po (o.snd hc).pt hb) fun Z σ H ⟨F, Rf0, Rf, ad, se, w, st, p⟩ => ?_
  rw [exec.eq_def] at p; dsimp only at p
  refine ⟨fun m σ H => ∃ F Rf ad se w, StR (kp X) F Rf0 Rf ad se w σ H ∧ PostS (kp X) cad fr Rf0 E F ad (whGo (fun s w => toB (evS Φ kp' fz c s w)) fz (fun s w => execs Φ n b s w) m se w) Z, ⟨n, F, Rf, ad, se, w, st, p⟩, ?_⟩
  rintro m σ H ⟨F, Rf, ad, se, w, st, p⟩
  cases m with
  | zero => exact p.elim
  | succ m =>
    have p : PostS (kp X) cad fr Rf0 E F ad ((toB (evS Φ kp' fz c se w)).thenS fun (k, w') => match k with
      | true => (execs Φ n b (frz fz se) w').turn (whGo (fun s w => toB (evS Φ kp' fz c s w)) fz (fun s w => execs Φ n b s w) m)
      | false => .nx (frz fz se) w') Z := p
    refine evB_rd st p fun k w1 H1 F1 R1 ad1 x1 l1 s1 p1 => ?_
    cases k with
    | false => exact ite_ff (PostS.here p1 s1)
    | true =>
      refine ite_tt ⟨_, fun σ' H' q => ⟨m, Nat.lt_succ_self _, q⟩, F1, Rf0, R1, ad1, _, w1, s1, PostS.turn p1 fun s w σ H F' Rf' ad' _ _ st' p' => ⟨F', Rf', ad', s, w, st', p'⟩⟩
/-- the walk of a for -/
theorem for_go {J : It} {F F1 Rf0 Rf : Hp} {ad ad1 : Ads} {ds : List D} {se : SEnv} {w : W} {σ : L2.St} {H1 : Hp} {Z : Ends} {g : TG} {b : LSs} {body : D → SEnv → W → Rs} (wk : WalkD (kp X) F1 ad1 J ds) (s1 : StR (kp X) F1 Rf0 Rf ad1 se w σ H1)
    (p : PostS (kp X) cad fr Rf0 E F1 ad1 (forGo body ds se w) Z)
    (hg : ∀ d v s w σ H F' Rf' ad' (r : Rs) (Z' : Ends), StR (kp X) F' Rf0 Rf' ad' s w σ H → Rp (kp X) F' ad' v d → PostS (kp X) cad fr Rf0 E F' ad' (body d s w) Z' → g v σ H fun σ2 H2 => rdSs (kp X) cad Φ n fr E b Z' σ2 H2) :
    ∃ Wd : Nat → Nat → L2.St → Hp → Prop, (∃ m, Wd 0 m σ H1) ∧ ∀ i m σ H, Wd i m σ H →
      (J.stop i H ∧ Z.nx σ H) ∨ (J.go i H ∧ ∃ Nn : L2.St → Hp → Prop, (∀ σ' H', Nn σ' H' → ∃ m', m' < m ∧ Wd (i + 1) m' σ' H') ∧ ∀ x H', J.yld i H x H' → g x σ H' fun σ2 H2 => rdSs (kp X) cad Φ n fr E b { Z with nx := Nn, ct := Nn, bk := Z.nx } σ2 H2) := by
  refine for_it wk (fun i σ H => ∃ F' Rf' ad' s w, Ex F1 F' ∧ Le ad1 ad' ∧ StR (kp X) F' Rf0 Rf' ad' s w σ H ∧ PostS (kp X) cad fr Rf0 E F' ad' (forGo body (ds.drop i) s w) Z) ⟨F1, Rf, ad1, se, w, Ex.refl F1, Le.refl ad1, s1, p⟩ ?_ ?_ ?_
  · rintro i σ H hi ⟨F', Rf', ad', s, w, x', l', st', p'⟩
    exact x'.trans st'.sr.fx
  · rintro i x σ H H' hi ⟨F', Rf', ad', s, w, x', l', st', p'⟩ ⟨d, hd, hy⟩
    have hdr : ds.drop i = d :: ds.drop (i + 1) := by
      obtain ⟨hlt, hg⟩ := List.getElem?_eq_some_iff.mp hd
      rw [← hg]; exact (List.drop_eq_getElem_cons hlt)
    rw [hdr] at p'
    have p' : PostS (kp X) cad fr Rf0 E F' ad' ((body d s w).turn (forGo body (ds.drop (i + 1)))) Z := p'
    obtain ⟨F2, x2, s2, rd⟩ : ∃ F2, Ex F' F2 ∧ StR (kp X) F2 Rf0 Rf' ad' s w σ H' ∧ Rp (kp X) F2 ad' x d := by
      rcases hy with ⟨rfl, rd⟩ | ⟨T, a, b, da, db, rfl, hT, rfl, rfl, ra, rb⟩
      · exact ⟨F', Ex.refl F', st', rd.mono x' l'⟩
      · have fT := st'.sr.fnone hT
        refine ⟨_, Ex.new fT, st'.grown (Ex.new fT) (Le.refl ad') (st'.sr.laid hT), ?_⟩
        exact RpAll.tup (.inl (.inl upd_same)) (.cons ((ra.mono x' l').mono (Ex.new fT) (Le.refl _)) (.cons ((rb.mono x' l').mono (Ex.new fT) (Le.refl _)) .nil))
    exact hg d x s w σ H' F2 Rf' ad' .bad _ s2 rd (PostS.turn (PostS.mono x2 (Le.refl ad') p') fun s3 w3 σ3 H3 F3 R3 ad3 x3 l3 st3 p3 => ⟨F3, R3, ad3, s3, w3, (x'.trans x2).trans x3, l'.trans l3, st3, p3⟩)
  · rintro σ H ⟨F', Rf', ad', s, w, x', l', st', p'⟩
    rw [List.drop_length] at p'
    exact PostS.here p' st'
theorem evi_rd {Φ : Fns} {K : KP} {fz : List Nat} {it : LI} {s : SEnv} {w : W} {F Rf0 Rf : Hp} {ad : Ads} {σ : L2.St} {H : Hp} {f : List D × W → Rs} {Z : Ends} {Q' : It → Hp → Prop} (st : StR K F Rf0 Rf ad s w σ H) (p : PostS K cad fr Rf0 E F ad ((evi Φ (view (frz fz s)) it w).thenS f) Z)
    (k : ∀ ds w1 J H1 F1 Rf1 ad1, Ex F F1 → Le ad ad1 → StR K F1 Rf0 Rf1 ad1 (frz fz s) w1 σ H1 → WalkD K F1 ad1 J ds → PostS K cad fr Rf0 E F1 ad1 (f (ds, w1)) Z → Q' J H1) : rdI K cad (WS E) Φ it σ H Q' := by
  obtain ⟨F0, R0, x0, st0, _, n0⟩ := st.frz fz
  refine ⟨F0, R0, ad, view (frz fz s), w, st0.sr, st0.envR, ?_⟩
  cases e1 : evi Φ (view (frz fz s)) it w with
  | bad => rw [e1] at p; exact p.elim
  | er e' w' =>
    rw [e1] at p
    exact fun cls dd H2 F2 ad2 a b c r => p cls dd H2 F2 ad2 (x0.trans a) b (c.less st0.ex) r
  | ok y =>
    obtain ⟨ds, w1⟩ := y
    rw [e1] at p
    exact fun J H2 F2 ad2 a b c r => k ds w1 J H2 F2 R0 ad2 (x0.trans a) b (st0.grown a b c) r (PostS.mono (x0.trans a) b p)
theorem st_for (o : SOk T N sc cad Φ E X) {fz : List Nat} {tg : Tg} {it : LI} {b : LSs} {t x : Expr} {sb : List Stmt} (ht : chkT N sc tg t = true) (hi : chki T N it sc x = true) (hn : needT it = true → isTupE t = true) (hx : notSet x = true) (hb : PSs X sb (rdSs (kp X) cad Φ n fr E b)) :
    PS X (.For t x sb [] pos) (rdS (kp X) cad Φ n fr E (.for_ fz tg it b)) := by
  refine PS.imp (ps_for o.po o.ok.calm (sndi it sc x t X (WS E) o.ok o.scok o.tk hi hn) (s_tg o.ok o.scok ht) hb (unfolded hx)) fun Z σ H ⟨F, Rf0, Rf, ad, se, w, st, p⟩ => ?_
  rw [exec.eq_def] at p; dsimp only at p
  refine evi_rd st p fun ds w1 J H1 F1 R1 ad1 x1 l1 s1 wk p1 => ?_
  refine for_go (F := F) (ad := ad) wk s1 p1 fun d v s w σ H F' Rf' ad' r Z' st' rd p' => ?_
  cases es : setT tg d s with
  | none => simp only [es] at p'; exact p'.elim
  | some s' =>
    simp only [es] at p'
    exact gT_set (K := kp X) st' rd es fun σ' s2 => ⟨F', Rf0, Rf', ad', s', w, s2, p'⟩
theorem st_ret (o : SOk T N sc cad Φ E X) {fz : List Nat} {e : LE} {x : Expr} (hf : fr = true → okFr T e = true) (hc : chk T N e sc x = true) : PS X (.Return (some x) pos) (rdS (kp X) cad Φ n fr E (.ret fz e)) := by
  refine PS.imp (ps_ret ((o.snd hc).pe fr hf)) fun Z σ H ⟨F, Rf0, Rf, ad, se, w, st, p⟩ => ?_
  rw [exec.eq_def] at p; dsimp only at p
  refine evS_rd (frE := fr) st p fun d w1 v H1 F1 R1 ad1 x1 l1 s1 r1 p1 => ?_
  have r2 : Res (kp X) F1 ad1 Rf0 H1 fr v d := by
    cases fr with
    | false => exact r1
    | true =>
      cases d with
      | lst ds =>
        obtain ⟨a, vs, e1, ha, r, fa, ra, na⟩ := r1
        refine ⟨a, vs, e1, ha, r, fa, ?_, na⟩
        cases e2 : Rf0 a with
        | none => rfl
        | some u => rw [s1.ex _ _ e2] at ra; cases ra
      | _ => exact r1
  exact p1 v H1 F1 ad1 (Ex.refl F1) (Le.refl ad1) s1.base r2
theorem st_retO (o : SOk T N sc cad Φ E X) {i : Nat} {x : Expr} (hx : vName N sc i x = true) : PS X (.Return (some x) pos) (rdS (kp X) cad Φ n fr E (.retO i)) := by
  obtain ⟨y, py, rfl, pv, _, _, _⟩ := o.name hx
  refine PS.imp (ps_ret pv) fun Z σ H ⟨F, Rf0, Rf, ad, se, w, st, p⟩ => ?_
  rw [exec.eq_def] at p; dsimp only at p
  cases eo : ownAt se i with
  | none => rw [eo] at p; exact p.elim
  | some ds =>
    rw [eo] at p
    obtain ⟨q, vs, q1, q2, q3, q4⟩ := st.own i ds (ownAt_of eo)
    refine ⟨.ref q, q1, ?_⟩
    have fq := st.sr.dj _ _ q2
    cases fr with
    | true => exact p _ H F ad (Ex.refl F) (Le.refl ad) st.base ⟨q, vs, rfl, st.sr.rx _ _ q2, q3, fq, q4, st.sr.apart q2⟩
    | false => exact p _ H (upd F q (.lst vs)) ad (Ex.new fq) (Le.refl ad) ((st.base).know (st.sr.rx _ _ q2) q4 (st.sr.apart q2)) ((q3.mono (Ex.new fq) (Le.refl ad)).lst upd_same)
end
end LL
/-! == LL16 == -/
set_option Elab.async false
set_option linter.all false
set_option maxRecDepth 100000
set_option maxHeartbeats 4000000
/-! LL, part 16: several names at once; for over a range -/
namespace LL
open PySem PySem.Spec PyProof.Rows L2

section
variable {K : KP} {cad : Nat → Addr} {fr : Bool} {Rf0 : Hp} {E : XK} {F F' Rf : Hp} {ad ad' : Ads} {w : W} {H : Hp}
/-- the same slots, otherwise numbered -/
theorem StR.remap {S S' : SEnv} {Sg Sh : L2.St} (k : StR K F Rf0 Rf ad S w Sg H) (φ : Nat → Nat) (inj : ∀ i j, φ i = φ j → i = j) (hl : S'.length = Sh.length)
    (h : ∀ j y, S'[j]? = some y → y ≠ .no → S[φ j]? = some y ∧ Sh[j]? = Sg[φ j]?) : StR K F Rf0 Rf ad S' w Sh H :=
  ⟨k.sr, k.ex, hl, fun i d e => by
    obtain ⟨a, b⟩ := h i _ e (fun q => nomatch q)
    rw [b]; exact k.val _ _ a, fun i ds e => by
    obtain ⟨a, b⟩ := h i _ e (fun q => nomatch q)
    rw [b]; exact k.own _ _ a, fun i j ds es p hij hi hj hp => by
    obtain ⟨a, b⟩ := h i _ hi (fun q => nomatch q)
    obtain ⟨c, d⟩ := h j _ hj (fun q => nomatch q)
    rw [b] at hp
    rw [d]
    exact k.ap _ _ ds es p (fun q => hij (inj _ _ q)) a c hp⟩
theorem StR.pre {s a : SEnv} {σ b : L2.St} (k : StR K F Rf0 Rf ad (s ++ a) w (σ ++ b) H) (hl : s.length = σ.length) : StR K F Rf0 Rf ad s w σ H :=
  k.remap id (fun _ _ q => q) hl fun j y e _ => by
    have hj := (List.getElem?_eq_some_iff.mp e).1
    exact ⟨by rw [id, List.getElem?_append_left hj]; exact e, by rw [id, List.getElem?_append_left (by rw [← hl]; exact hj)]⟩
theorem StR.ext1 {S : SEnv} {Sg : L2.St} (k : StR K F Rf0 Rf ad S w Sg H) : StR K F Rf0 Rf ad (S ++ [.no]) w (Sg ++ [none]) H :=
  k.remap id (fun _ _ q => q) (by simp [k.len]) fun j y e hy => by
    by_cases hj : j < S.length
    · rw [List.getElem?_append_left hj] at e
      exact ⟨e, by rw [id, List.getElem?_append_left (by rw [← k.len]; exact hj)]⟩
    · rw [List.getElem?_append_right (by omega)] at e
      have : y = .no := by
        cases h : j - S.length with
        | zero => rw [h] at e; cases e; rfl
        | succ m => rw [h] at e; cases e
      exact absurd this hy
theorem StR.pushVal {S : SEnv} {Sg : L2.St} (k : StR K F Rf0 Rf ad S w Sg H) {v : V} {d : D} (r : Rp K F ad v d) : StR K F Rf0 Rf ad (S ++ [.val d]) w (Sg ++ [some v]) H := by
  have := k.ext1.set (i := S.length) r
  rw [List.set_append_right _ _ (Nat.le_refl _), List.set_append_right _ _ (by rw [k.len]; exact Nat.le_refl _)] at this
  simpa [k.len] using this
theorem StR.pushOwn {S : SEnv} {Sg : L2.St} (k : StR K F Rf0 Rf ad S w Sg H) {a : Addr} {vs : List V} {ds : List D} (ha : H a = some (.lst vs)) (r : RpAll K F ad vs ds) (fa : F a = none) (ra : Rf a = none)
    (na : ∀ (n : Nat) (p : Addr × Addr), ad[n]? = some p → p.1 ≠ a ∧ p.2 ≠ a) : StR K F Rf0 (upd Rf a (.lst vs)) ad (S ++ [.own ds]) w (Sg ++ [some (.ref a)]) H := by
  have := k.ext1.setOwn (i := S.length) ha r fa ra na
  rw [List.set_append_right _ _ (Nat.le_refl _), List.set_append_right _ _ (by rw [k.len]; exact Nat.le_refl _)] at this
  simpa [k.len] using this
theorem StR.mv {s xs : SEnv} {x : Slot} {σ vs : L2.St} {v : V} {i : Nat} (k : StR K F Rf0 Rf ad (s ++ (x :: xs)) w (σ ++ (some v :: vs)) H) (hl : s.length = σ.length) (hi : i < s.length) :
    StR K F Rf0 Rf ad (s.set i x ++ xs) w (σ.set i (some v) ++ vs) H := by
  have hxl : xs.length = vs.length := by
    have := k.len
    simp at this
    omega
  have hiσ : i < σ.length := by rw [← hl]; exact hi
  have key : ∀ j y, (s.set i x ++ xs)[j]? = some y → (s ++ x :: xs)[if j < s.length then (if j = i then s.length else j) else j + 1]? = some y ∧ (σ.set i (some v) ++ vs)[j]? = (σ ++ some v :: vs)[if j < s.length then (if j = i then s.length else j) else j + 1]? := fun j y e => by
    by_cases hj : j < s.length
    · have hjσ : j < σ.length := by rw [← hl]; exact hj
      rw [if_pos hj]
      rw [List.getElem?_append_left (l₁ := s.set i x) (by rw [List.length_set]; exact hj)] at e
      rw [List.getElem?_append_left (l₁ := σ.set i (some v)) (by rw [List.length_set]; exact hjσ)]
      by_cases hji : j = i
      · subst hji
        rw [List.getElem?_set_self hj] at e
        rw [if_pos rfl, List.getElem?_set_self hjσ]
        refine ⟨by rw [List.getElem?_append_right (Nat.le_refl _)]; simpa using e, ?_⟩
        rw [List.getElem?_append_right (by rw [hl]; exact Nat.le_refl _)]
        simp [hl]
      · rw [List.getElem?_set_ne (Ne.symm hji)] at e
        rw [if_neg hji, List.getElem?_set_ne (Ne.symm hji)]
        exact ⟨by rw [List.getElem?_append_left hj]; exact e, by rw [List.getElem?_append_left hjσ]⟩
    · rw [if_neg hj]
      rw [List.getElem?_append_right (l₁ := s.set i x) (by rw [List.length_set]; omega)] at e
      rw [List.getElem?_append_right (l₁ := σ.set i (some v)) (by rw [List.length_set]; omega), List.getElem?_append_right (l₁ := s) (by omega), List.getElem?_append_right (l₁ := σ) (by omega)]
      have e1 : j + 1 - s.length = (j - s.length) + 1 := by omega
      have e2 : j + 1 - σ.length = (j - σ.length) + 1 := by omega
      rw [e1, e2]
      simp only [List.length_set, List.getElem?_cons_succ] at e ⊢
      exact ⟨e, trivial⟩
  refine k.remap (fun j => if j < s.length then (if j = i then s.length else j) else j + 1) (fun a b q => ?_) (by simp [hl, hxl]) fun j y e _ => key j y e
  have q : (if a < s.length then (if a = i then s.length else a) else a + 1) = (if b < s.length then (if b = i then s.length else b) else b + 1) := q
  split at q <;> split at q <;> (try split at q) <;> (try split at q) <;> omega
/-- the slots behind are stored -/
theorem put_rd : ∀ (is : List Nat) (xs : List Slot) (vs : List V) (s s' : SEnv) (σ : L2.St) (Q : L2.St → Hp → Prop), StR K F Rf0 Rf ad (s ++ xs) w (σ ++ vs.map some) H → s.length = σ.length → putSlots is xs s = some s' →
    (∀ σ', StR K F Rf0 Rf ad s' w σ' H → Q σ' H) → gNames is vs σ H Q
  | [], xs, vs, s, s', σ, Q, st, hl, e, k => by
    cases xs with
    | nil =>
      cases e
      have hv : vs = [] := by
        have := st.len
        simp at this
        exact List.eq_nil_of_length_eq_zero (by omega)
      subst hv
      exact ⟨rfl, k σ (by simpa using st)⟩
    | cons _ _ => cases e
  | i :: is, xs, vs, s, s', σ, Q, st, hl, e, k => by
    cases xs with
    | nil => cases e
    | cons x xs =>
      cases vs with
      | nil =>
        have := st.len
        simp at this
        omega
      | cons v vs =>
        rw [putSlots] at e
        split at e
        · rename_i hi
          exact ⟨v, vs, rfl, put_rd is xs vs _ s' _ Q (st.mv hl hi) (by simp [hl]) e k⟩
        · cases e
theorem gNames_two {i j : Nat} {vs : List V} {σ : L2.St} {Q : L2.St → Hp → Prop} (h : gNames [i, j] vs σ H Q) : ∃ v u, vs = [v, u] ∧ Q ((σ.set i (some v)).set j (some u)) H := by
  obtain ⟨v, r, rfl, u, r', rfl, rfl, q⟩ := h
  exact ⟨v, u, rfl, q⟩
theorem gNames_three {i j l : Nat} {vs : List V} {σ : L2.St} {Q : L2.St → Hp → Prop} (h : gNames [i, j, l] vs σ H Q) : ∃ v u t, vs = [v, u, t] ∧ Q (((σ.set i (some v)).set j (some u)).set l (some t)) H := by
  obtain ⟨v, r, rfl, u, r', rfl, t, r'', rfl, rfl, q⟩ := h
  exact ⟨v, u, t, rfl, q⟩
/-- an expression, other slots behind -/
theorem evS_rdA {Φ : Fns} {kp : List Nat} {e : LE} {s a : SEnv} {σ b : L2.St} {frE : Bool} {f : D × W → Rs} {Q' : VK} {Zn : Ends} (st : StR K F Rf0 Rf ad (s ++ a) w (σ ++ b) H) (hl : s.length = σ.length) (p : PostS K cad fr Rf0 E F ad ((evS Φ kp [] e s w).thenS f) Zn)
    (k : ∀ d w1 v H1 F1 ad1, Ex F F1 → Le ad ad1 → StR K F1 Rf0 Rf ad1 (s ++ a) w1 (σ ++ b) H1 → Res K F1 ad1 Rf H1 frE v d → PostS K cad fr Rf0 E F1 ad1 (f (d, w1)) Zn → Q' v H1) : rdE K cad (WS E) Φ frE e σ H Q' := by
  cases kp with
  | nil =>
    refine ⟨F, Rf, ad, view s, w, st.sr, (st.pre hl).envR, ?_⟩
    unfold evS at p
    have p : PostS K cad fr Rf0 E F ad (((ev Φ (view s) e w).bind fun (d, w') => if (([] : List Nat).isEmpty || !d.hasL) = true then R.ok (d, w') else .bad).thenS f) Zn := p
    cases e1 : ev Φ (view s) e w with
    | bad => rw [e1] at p; exact p.elim
    | er e' w' =>
      rw [e1] at p
      exact fun cls dd H2 F2 ad2 a b c r => p cls dd H2 F2 ad2 a b (c.less st.ex) r
    | ok y =>
      obtain ⟨d, w1⟩ := y
      rw [e1] at p
      have p9 : PostS K cad fr Rf0 E F ad (f (d, w1)) Zn := p
      exact fun v H2 F2 ad2 a b c r => k d w1 v H2 F2 ad2 a b (st.grown a b c) r (PostS.mono a b p9)
  | cons i is =>
    obtain ⟨F1, R1, x1, st1, m1, n1⟩ := (st.pre hl).frz (i :: is)
    refine ⟨F1, R1, ad, view (LL.frz (i :: is) (LL.frz [] s)), w, st1.sr, st1.envR, ?_⟩
    unfold evS at p
    cases e1 : ev Φ (view (LL.frz (i :: is) (LL.frz [] s))) e w with
    | bad => rw [e1] at p; exact p.elim
    | er e' w' =>
      rw [e1] at p
      exact fun cls dd H2 F2 ad2 a b c r => p cls dd H2 F2 ad2 (x1.trans a) b (c.less st1.ex) r
    | ok y =>
      obtain ⟨d, w1⟩ := y
      rw [e1] at p
      have p : PostS K cad fr Rf0 E F ad ((if ((i :: is).isEmpty || !d.hasL) = true then R.ok (d, w1) else .bad : R (D × W)).thenS f) Zn := p
      by_cases hc : ((i :: is).isEmpty || !d.hasL) = true
      · rw [if_pos hc] at p
        have p9 : PostS K cad fr Rf0 E F ad (f (d, w1)) Zn := p
        clear p
        intro v H2 F2 ad2 a b c r
        have hd : d.hasL = false := by simpa using hc
        obtain ⟨F3, x3, st3, g⟩ := st.back m1 x1 a b c n1
        have r' : Rp K F2 ad2 v d := by
          cases frE with
          | false => exact r
          | true =>
            cases d with
            | lst ds => cases hd
            | _ => exact r
        exact k d w1 v H2 F3 ad2 x3 b st3 (Res.flat (hasL_lst hd) (rp_nolist g d v hd r')) (PostS.mono x3 b p9)
      · rw [if_neg hc] at p
        exact p.elim
theorem bind_then {α β : Type} {x : R α} {g : α → R β} {f : β → Rs} : (x.bind g).thenS f = x.thenS fun a => (g a).thenS f := by cases x <;> rfl
/-- readings of the elements -/
def tEs (K : KP) (cad : Nat → Addr) (E : XK) (Φ : Fns) : LEs → List Bool → TA
  | .nil, _ => tNil
  | .cons e es, os => tCons (rdE K cad (WS E) Φ (os.headD false) e) (tEs K cad E Φ es os.tail)
termination_by structural es => es
theorem par_rd {Φ : Fns} {kp : List Nat} {s : SEnv} {σ : L2.St} {Zn : Ends} (hl : s.length = σ.length) : ∀ (es : LEs) (os : List Bool) {F Rf : Hp} {ad : Ads} {a : List Slot} {b : List V} {w : W} {H : Hp} {f : List Slot × W → Rs} {Q : List V → Hp → Prop},
    StR K F Rf0 Rf ad (s ++ a) w (σ ++ b.map some) H → PostS K cad fr Rf0 E F ad ((parGo Φ kp s es os w).thenS f) Zn →
    (∀ xs w1 vs H1 F1 R1 ad1, Ex F F1 → Le ad ad1 → StR K F1 Rf0 R1 ad1 (s ++ (a ++ xs)) w1 (σ ++ (b ++ vs).map some) H1 → PostS K cad fr Rf0 E F1 ad1 (f (xs, w1)) Zn → Q vs H1) → tEs K cad E Φ es os σ H Q
  | .nil, os, F, Rf, ad, a, b, w, H, f, Q, st, p, k => by
    cases os with
    | nil => exact k [] w [] H F Rf ad (Ex.refl F) (Le.refl ad) (by simpa using st) p
    | cons _ _ => exact p.elim
  | .cons e es, os, F, Rf, ad, a, b, w, H, f, Q, st, p, k => by
    cases os with
    | nil => exact p.elim
    | cons o os =>
      have p : PostS K cad fr Rf0 E F ad (((evS Φ kp [] e s w).bind fun (d, w1) => match toSlot o d with
        | some x => (parGo Φ kp s es os w1).bind fun (xs, w2) => .ok (x :: xs, w2)
        | none => .bad).thenS f) Zn := p
      rw [bind_then] at p
      refine evS_rdA (frE := o) st hl p fun d w1 v H1 F1 ad1 x1 l1 s1 r1 p1 => ?_
      have p1 : PostS K cad fr Rf0 E F1 ad1 ((match toSlot o d with
        | some x => (parGo Φ kp s es os w1).bind fun (xs, w2) => .ok (x :: xs, w2)
        | none => .bad : R (List Slot × W)).thenS f) Zn := p1
      cases et : toSlot o d with
      | none => rw [et] at p1; exact p1.elim
      | some x =>
        rw [et] at p1
        have p1 : PostS K cad fr Rf0 E F1 ad1 (((parGo Φ kp s es os w1).bind fun (xs, w2) => .ok (x :: xs, w2)).thenS f) Zn := p1
        rw [bind_then] at p1
        obtain ⟨R2, s2⟩ : ∃ R2, StR K F1 Rf0 R2 ad1 (s ++ (a ++ [x])) w1 (σ ++ (b ++ [v]).map some) H1 := by
          rw [← List.append_assoc, List.map_append, ← List.append_assoc]
          cases o with
          | false =>
            cases et
            exact ⟨Rf, s1.pushVal r1.rp⟩
          | true =>
            cases d with
            | lst ds =>
              cases et
              obtain ⟨q, vs, rfl, ha, r, fa, ra, na⟩ := r1
              exact ⟨_, s1.pushOwn ha r fa ra na⟩
            | _ => cases et
        refine par_rd hl es os (a := a ++ [x]) (b := b ++ [v]) s2 p1 fun xs w3 vs H3 F3 R3 ad3 x3 l3 s3 p3 => ?_
        exact k (x :: xs) w3 (v :: vs) H3 F3 R3 ad3 (x1.trans x3) (l1.trans l3) (by simpa using s3) p3
end

/-! ### what is asked -/
def sameLine (ts : List Expr) : Bool := match ts with
  | [] => true
  | t :: r => r.all fun x => x.pos.line == t.pos.line
/-- plain local names -/
def locNames (sc : Scope) : List Expr → Bool
  | [] => true
  | .Name y _ :: r => locB sc y && locNames sc r
  | _ => false
def swapped (sc : Scope) (ts vs : List Expr) : Bool := locNames sc ts && sameLine ts && vs.all notStar && !(vs.all (foldedForSure 8)) && !(vs.all (constantsAlone 8))
theorem any_star : ∀ {vs : List Expr}, vs.all notStar = true → (vs.any fun | .Starred .. => true | _ => false) = false
  | [], _ => rfl
  | v :: vs, h => by
    rw [List.all_cons, Bool.and_eq_true] at h
    rw [List.any_cons, any_star h.2, Bool.or_false]
    cases v <;> first | rfl | exact absurd h.1 (by simp [notStar])
theorem stores_two {sc : Scope} {X : Cx} (hs : X.env.scope = sc) (hk : sc.kind = .function) {x y : Str} {px py kp p2 : Pos} {k1 k2 : Nat} {a b : Expr} (h : swapped sc [.Name x px, .Name y py] [a, b] = true) (hxy : x ≠ y) :
    swappedStores [.Tuple [.Name x px, .Name y py] k1 kp] (.Tuple [a, b] k2 p2) X.env = pure (some [x, y]) := by
  have hb : (X.env.blockKind != .function) = false := by unfold PySem.Env.blockKind; rw [hs, hk]; rfl
  unfold swapped at h
  simp only [Bool.and_eq_true, Bool.not_eq_true'] at h
  obtain ⟨⟨⟨⟨h1, h2⟩, h3⟩, h4⟩, h5⟩ := h
  have k : ∀ z, locB sc z = true → X.env.kindOf z = some .local := fun z hz => by
    unfold locB at hz
    split at hz
    · rename_i e; show X.env.scope.names.lookup z = _; rw [hs]; exact e
    · cases hz
  simp only [locNames, Bool.and_eq_true] at h1
  have e2 : (py.line == px.line) = true := by simpa [sameLine, Expr.pos] using h2
  have e3 : ([x, y].eraseDups.length != 2) = false := by
    have : (x == y) = false := by simpa using hxy
    simp [List.eraseDups_cons, this, Ne.symm hxy]
  have hst := any_star h3
  unfold swappedStores
  simp only [pure_bind, hb]
  refine (if_neg (by simp)).trans ?_
  refine (if_neg fun q => absurd (q.symm.trans hst) (by decide)).trans ?_
  simp only [h4, h5, List.filterMap_cons, List.filterMap_nil, List.head?_cons, Option.map_some, Option.getD_some, Expr.pos, k x h1.1, k y h1.2.1, e2]
  simp [e3]
theorem stores_three {sc : Scope} {X : Cx} (hs : X.env.scope = sc) (hk : sc.kind = .function) {x y z : Str} {px py pz kp p2 : Pos} {k1 k2 : Nat} {a b c : Expr} (h : swapped sc [.Name x px, .Name y py, .Name z pz] [a, b, c] = true) (hxy : x ≠ y) (hxz : x ≠ z) (hyz : y ≠ z) :
    swappedStores [.Tuple [.Name x px, .Name y py, .Name z pz] k1 kp] (.Tuple [a, b, c] k2 p2) X.env = pure (some [x, y, z]) := by
  have hb : (X.env.blockKind != .function) = false := by unfold PySem.Env.blockKind; rw [hs, hk]; rfl
  unfold swapped at h
  simp only [Bool.and_eq_true, Bool.not_eq_true'] at h
  obtain ⟨⟨⟨⟨h1, h2⟩, h3⟩, h4⟩, h5⟩ := h
  have k : ∀ z, locB sc z = true → X.env.kindOf z = some .local := fun z hz => by
    unfold locB at hz
    split at hz
    · rename_i e; show X.env.scope.names.lookup z = _; rw [hs]; exact e
    · cases hz
  simp only [locNames, Bool.and_eq_true] at h1
  have e2 : (py.line == px.line) = true ∧ (pz.line == px.line) = true := by simpa [sameLine, Expr.pos] using h2
  have e3 : ([x, y, z].eraseDups.length != 3) = false := by
    have e : (x == y) = false := by simpa using hxy
    have e' : (x == z) = false := by simpa using hxz
    have e'' : (y == z) = false := by simpa using hyz
    simp [List.eraseDups_cons, e, e', e'', Ne.symm hxy, Ne.symm hxz, Ne.symm hyz]
  have hst := any_star h3
  unfold swappedStores
  simp only [pure_bind, hb]
  refine (if_neg (by simp)).trans ?_
  refine (if_neg fun q => absurd (q.symm.trans hst) (by decide)).trans ?_
  simp only [h4, h5, List.filterMap_cons, List.filterMap_nil, List.head?_cons, Option.map_some, Option.getD_some, Expr.pos, k x h1.1, k y h1.2.1, k z h1.2.2.1, e2.1, e2.2]
  simp [e3]
end LL
/-! == LL17 == -/
set_option Elab.async false
set_option linter.all false
set_option maxRecDepth 100000
set_option maxHeartbeats 4000000
/-! LL, part 17: a term of statements says statements of the text -/
namespace LL
open PySem PySem.Spec PyProof.Rows L2

def osOk (T : Tab) : LEs → List Bool → Bool
  | .nil, [] => true
  | .cons e es, o :: os => (!o || okFr T e) && osOk T es os
  | _, _ => false
termination_by structural es => es
def nodupB : List Nat → Bool
  | [] => true
  | i :: is => !(is.any fun j => i == j) && nodupB is
section
variable {T : Tab} {N : List Str} {sc : Scope} {cad : Nat → Addr} {Φ : Fns} {E : XK} {X : Cx} {n : Nat} {fr : Bool} {pos : Pos}
theorem pa_es (o : SOk T N sc cad Φ E X) : ∀ {es : LEs} {os : List Bool} {xs : List Expr}, chks T N es sc xs = true → osOk T es os = true → PA X xs (tEs (kp X) cad E Φ es os)
  | .nil, os, xs, h, h2 => by
    cases xs with
    | nil => exact pa_nil
    | cons _ _ => exact absurd (show false = true from h) (by decide)
  | .cons e es, os, xs, h, h2 => by
    cases xs with
    | nil => exact absurd (show false = true from h) (by decide)
    | cons x xs =>
      cases os with
      | nil => exact absurd (show false = true from h2) (by decide)
      | cons b os =>
        rw [chks] at h
        simp only [Bool.and_eq_true] at h
        rw [osOk] at h2
        simp only [Bool.and_eq_true, Bool.or_eq_true, Bool.not_eq_true'] at h2
        refine pa_cons ((o.snd h.1.2).pe b fun hb => ?_) (pa_es o h.2 h2.2) (star_cons h.1.1)
        rcases h2.1 with q | q
        · rw [hb] at q; cases q
        · exact q
theorem putSlots_len : ∀ {is : List Nat} {xs : List Slot} {s s' : SEnv}, putSlots is xs s = some s' → xs.length = is.length
  | [], [], _, _, _ => rfl
  | i :: is, x :: xs, s, s', h => by
    rw [putSlots] at h
    split at h
    · simp [putSlots_len h]
    · cases h
  | [], _ :: _, _, _, h => by cases h
  | _ :: _, [], _, _, h => by cases h
theorem par_go {kp' fz is : List Nat} {os : List Bool} {es : LEs} {Z : Ends} {σ : L2.St} {H : Hp} (h : rdS (kp X) cad Φ n fr E (.par kp' fz is os es) Z σ H) :
    tEs (kp X) cad E Φ es os σ H fun vs H1 => vs.length = is.length ∧ gNames is vs σ H1 Z.nx ∧ ∀ p, H1 p = none → gNames is vs σ (upd H1 p (.tup vs)) Z.nx := by
  obtain ⟨F, Rf0, Rf, ad, se, w, st, p⟩ := h
  rw [exec.eq_def] at p; dsimp only at p
  obtain ⟨F0, R0, x0, st0, _, _⟩ := st.frz fz
  refine par_rd (a := []) (b := []) st0.len es os (by simpa using st0) (PostS.mono x0 (Le.refl ad) p) fun xs w1 vs H1 F1 R1 ad1 x1 l1 s1 p1 => ?_
  dsimp only at p1
  cases ep : putSlots is xs (frz fz se) with
  | none => rw [ep] at p1; exact p1.elim
  | some s' =>
    rw [ep] at p1
    have hl : vs.length = is.length := by
      have := s1.len
      simp [st0.len] at this
      rw [← putSlots_len ep]; omega
    have s1 : StR (kp X) F1 Rf0 R1 ad1 (frz fz se ++ xs) w1 (σ ++ vs.map some) H1 := by simpa using s1
    refine ⟨hl, put_rd is xs vs _ s' σ _ s1 st0.len ep fun σ' s2 => PostS.here p1 s2, fun q hq => ?_⟩
    exact put_rd is xs vs _ s' σ _ (s1.grown (Ex.refl F1) (Le.refl ad1) (s1.sr.lay hq)) st0.len ep fun σ' s2 => PostS.here p1 s2
def parSw (sc : Scope) : List Expr → List Expr → List Nat → Bool
  | [.Name x px, .Name y py], [a, b], [i, j] => swapped sc [.Name x px, .Name y py] [a, b] && !eqN x y && !(i == j)
  | [.Name x px, .Name y py, .Name z pz], [a, b, c], [i, j, l] => swapped sc [.Name x px, .Name y py, .Name z pz] [a, b, c] && !eqN x y && !eqN x z && !eqN y z && !(i == j) && !(i == l) && !(j == l)
  | _, _, _ => false
theorem tes_imp : ∀ {es : LEs} {os : List Bool} {σ : L2.St} {H : Hp} {Q Q' : List V → Hp → Prop}, tEs (kp X) cad E Φ es os σ H Q → (∀ vs H, Q vs H → Q' vs H) → tEs (kp X) cad E Φ es os σ H Q'
  | .nil, os, σ, H, Q, Q', h, k => k _ _ h
  | .cons e es, os, σ, H, Q, Q', h, k => rd_imp h fun v H1 q => tes_imp (es := es) q fun vs H2 q2 => k _ _ q2
theorem st_par (o : SOk T N sc cad Φ E X) {kp' fz is : List Nat} {os : List Bool} {es : LEs} {ts xs : List Expr} {k1 k2 : Nat} {p1 p2 : Pos} (ht : chkNs N sc is ts = true) (hc : chks T N es sc xs = true) (hos : osOk T es os = true) (hn : is.length ≤ 1000)
    (hw : tupOk sc ts (.Tuple xs k2 p2) = true ∨ parSw sc ts xs is = true) : PS X (.Assign [.Tuple ts k1 p1] (.Tuple xs k2 p2) pos) (rdS (kp X) cad Φ n fr E (.par kp' fz is os es)) := by
  have pa := pa_es o hc hos
  rcases hw with hw | hw
  · have pg : PG X (.Tuple ts k1 p1) (gT X.K (.many is)) := s_tg o.ok o.scok (t := .many is) ht
    refine PS.imp (ps_asg (pe_tup pa) pg rfl (stores_tup o.sce hw) rfl) fun Z σ H h => ?_
    refine tes_imp (par_go h) fun vs H1 ⟨hl, _, q⟩ => ⟨by rw [hl, sizeLine_eq]; omega, fun p hp => ⟨p, vs, rfl, .inl (.inl upd_same), hl, q p hp⟩⟩
  · have nm : ∀ {i : Nat} {y : Str} {p : Pos}, chkN N sc i (.Name y p) = true → X.N[i]? = some y := fun {i y p} h => by
      unfold chkN at h
      rw [Bool.and_eq_true] at h
      rw [o.ok.N]; exact hasN_eq h.1
    have lc : ∀ {y : Str}, locB sc y = true → X.env.scope.names.lookup y = some .local := fun {y} h => by
      rw [o.sce]
      unfold locB at h
      split at h
      · assumption
      · cases h
    have ne : ∀ {a b : Str}, eqN a b = false → a ≠ b := fun {a b} h e => by rw [e] at h; exact absurd h (by simp [eqN])
    have ni : ∀ {i j : Nat}, (i == j) = false → i ≠ j := fun {i j} h => by simpa using h
    have hloc : ∀ {ts xs : List Expr}, swapped sc ts xs = true → locNames sc ts = true := fun {ts xs} h => by
      unfold swapped at h
      simp only [Bool.and_eq_true] at h
      exact h.1.1.1.1
    unfold parSw at hw
    split at hw
    · simp only [Bool.and_eq_true, Bool.not_eq_true'] at hw
      obtain ⟨⟨hw, hd⟩, hij⟩ := hw
      have hl := hloc hw
      simp only [chkNs, Bool.and_eq_true] at ht
      simp only [locNames, Bool.and_eq_true] at hl
      refine PS.imp (ps_par o.ok.calm o.ok.nd (nm ht.1) (nm ht.2.1) (ni hij) (lc hl.1) (lc hl.2.1) pa (stores_two o.sce o.kind hw (ne hd)) rfl) fun Z σ H h => ?_
      exact tes_imp (par_go h) fun vs H1 ⟨_, q, _⟩ => gNames_two q
    · simp only [Bool.and_eq_true, Bool.not_eq_true'] at hw
      obtain ⟨⟨⟨⟨⟨⟨hw, d1⟩, d2⟩, d3⟩, i1⟩, i2⟩, i3⟩ := hw
      have hl := hloc hw
      simp only [chkNs, Bool.and_eq_true] at ht
      simp only [locNames, Bool.and_eq_true] at hl
      refine PS.imp (ps_par3 o.ok.calm o.ok.nd (nm ht.1) (nm ht.2.1) (nm ht.2.2.1) (ni i1) (ni i2) (ni i3) (lc hl.1) (lc hl.2.1) (lc hl.2.2.1) pa (stores_three o.sce o.kind hw (ne d1) (ne d2) (ne d3)) rfl) fun Z σ H h => ?_
      exact tes_imp (par_go h) fun vs H1 ⟨_, q, _⟩ => gNames_three q
    · cases hw

/-! ### for over a range -/
theorem evoF_then {f : W → R (D × W)} {w : W} {g : Option Int × W → Rs} : (evoF false f w).thenS g = (toI (f w)).thenS fun (i, w') => g (some i, w') := by
  unfold evoF toI
  cases f w with
  | ok y =>
    obtain ⟨d, w'⟩ := y
    cases d <;> rfl
  | er _ _ => rfl
  | bad => rfl
theorem st_forR1 (o : SOk T N sc cad Φ E X) {kp' fz : List Nat} {i : Nat} {lo hi : LE} {b : LSs} {t x : Expr} {sb : List Stmt} {y : Str} {p pos' : Pos} (hlo : isNop lo = true) (hy : eqN y "range" = true) (hb : blt T sc y = true) (ht : chkN N sc i t = true) (hc : chk T N hi sc x = true) (hs : notStar x = true)
    (hbd : PSs X sb (rdSs (kp X) cad Φ n fr E b)) : PS X (.For t (.Call (.Name y p) [x] [] pos') sb [] pos) (rdS (kp X) cad Φ n fr E (.forR kp' fz i lo hi b)) := by
  obtain ⟨g, m⟩ := free_of o.ok o.scok hb
  have e := eqN_eq hy
  subst e
  refine PS.imp (ps_for o.po o.ok.calm (pi_range1 g m (pa_cons (o.snd hc).val pa_nil (star_cons hs)) (star_cons hs)) (s_name o.ok o.scok ht) hbd (fun _ => rfl)) fun Z σ H ⟨F, Rf0, Rf, ad, se, w, st, p⟩ => ?_
  rw [exec.eq_def] at p; dsimp only at p
  rw [hlo] at p
  obtain ⟨F0, R0, x0, st0, _, _⟩ := st.frz fz
  have p : PostS (kp X) cad fr Rf0 E F ad ((toI (evS Φ kp' [] hi (frz fz se) w)).thenS fun (h, w') => if okI 0 && okI h then forGo (fun d s w => execs Φ n b (s.set i (.val d)) w) (rngD 0 (h - 0).toNat) (frz fz se) w' else .bad) Z := p
  refine evI_rd st0 (PostS.mono x0 (Le.refl ad) p) fun h w1 H1 F1 R1 ad1 x1 l1 s1 p1 => ?_
  have s1 : StR (kp X) F1 Rf0 R1 ad1 (frz fz se) w1 σ H1 := s1
  dsimp only at p1
  split at p1
  · rename_i hk
    rw [Bool.and_eq_true] at hk
    obtain ⟨k1, k2⟩ := okI_of hk.2
    rw [Int.sub_zero] at p1
    exact ⟨h, rfl, k1, k2, for_go (F := F) (ad := ad) (walkD_range 0 _) s1 p1 fun d v s w σ H F' Rf' ad' r Z' st' rd p' => ⟨F', Rf0, Rf', ad', _, w, st'.set rd, p'⟩⟩
  · exact p1.elim
theorem st_forR2 (o : SOk T N sc cad Φ E X) {kp' fz : List Nat} {i : Nat} {lo hi : LE} {b : LSs} {t x z : Expr} {sb : List Stmt} {y : Str} {p pos' : Pos} (hlo : isNop lo = false) (hy : eqN y "range" = true) (hb : blt T sc y = true) (ht : chkN N sc i t = true) (hc0 : chk T N lo sc z = true) (hc : chk T N hi sc x = true)
    (hs0 : notStar z = true) (hs : notStar x = true) (hbd : PSs X sb (rdSs (kp X) cad Φ n fr E b)) : PS X (.For t (.Call (.Name y p) [z, x] [] pos') sb [] pos) (rdS (kp X) cad Φ n fr E (.forR kp' fz i lo hi b)) := by
  obtain ⟨g, m⟩ := free_of o.ok o.scok hb
  have e := eqN_eq hy
  subst e
  have s2 := star_cons (xs := []) (env := X.env) hs
  refine PS.imp (ps_for o.po o.ok.calm (pi_range2 g m (pa_cons (o.snd hc0).val (pa_cons (o.snd hc).val pa_nil s2) (star_cons hs0)) (by rw [star_cons hs0, s2]; rfl) s2) (s_name o.ok o.scok ht) hbd (fun _ => rfl)) fun Z σ H ⟨F, Rf0, Rf, ad, se, w, st, p⟩ => ?_
  rw [exec.eq_def] at p; dsimp only at p
  rw [hlo, evoF_then] at p
  refine evI_rd st p fun l w1 H1 F1 R1 ad1 x1 l1 s1 p1 => ?_
  have p1 : PostS (kp X) cad fr Rf0 E F1 ad1 ((toI (evS Φ kp' [] hi (frz fz se) w1)).thenS fun (h, w') => if okI l && okI h then forGo (fun d s w => execs Φ n b (s.set i (.val d)) w) (rngD l (h - l).toNat) (frz fz se) w' else .bad) Z := p1
  refine evI_rd s1 p1 fun h w2 H2 F2 R2 ad2 x2 l2 s2 p2 => ?_
  have s2 : StR (kp X) F2 Rf0 R2 ad2 (frz fz se) w2 σ H2 := s2
  dsimp only at p2
  split at p2
  · rename_i hk
    rw [Bool.and_eq_true] at hk
    obtain ⟨k1, k2⟩ := okI_of hk.1
    obtain ⟨k3, k4⟩ := okI_of hk.2
    exact ⟨l, h, rfl, ⟨k1, k2, k3, k4⟩, for_go (F := F) (ad := ad) (walkD_range l _) s2 p2 fun d v s w σ H F' Rf' ad' r Z' st' rd p' => ⟨F', Rf0, Rf', ad', _, w, st'.set rd, p'⟩⟩
  · exact p2.elim
end

/-! ### the check of statements -/
def strE : Expr → Bool
  | .Constant (.str _) _ _ => true
  | _ => false
mutual
def chkS (T : Tab) (N : List Str) (sc : Scope) (fr : Bool) : LS → Stmt → Bool
  | .set kp fz tg e, st => match st with
    | .Assign [t] x _ => chkT N sc tg t && swOk x && chk T N e sc x && tgtOk sc x t
    | _ => false
  | .new fz i e, st => match st with
    | .Assign [.Name y p] x _ => chkN N sc i (.Name y p) && swOk x && chk T N e sc x && okFr T e
    | _ => false
  | .par kp fz is os es, st => match st with
    | .Assign [.Tuple ts _ _] (.Tuple xs k2 p2) _ => chkNs N sc is ts && chks T N es sc xs && osOk T es os && decide (is.length ≤ 1000) && (tupOk sc ts (.Tuple xs k2 p2) || parSw sc ts xs is)
    | _ => false
  | .app kp fz i e, st => match st with
    | .Expr (.Call (.Attribute b m ap) [x] [] cp) _ => eqN m "append" && vName N sc i b && notStar x && chk T N e sc x && ap.endLine == cp.line
    | _ => false
  | .ext fz i e, st => match st with
    | .Expr (.Call (.Attribute b m ap) [x] [] cp) _ => eqN m "extend" && vName N sc i b && notStar x && chk T N e sc x && ap.endLine == cp.line
    | _ => false
  | .pop j i, st => match st with
    | .Expr (.Call (.Attribute b m ap) [] [] cp) _ => j.isNone && eqN m "pop" && vName N sc i b && ap.endLine == cp.line
    | .Assign [t] (.Call (.Attribute b m ap) [] [] cp) _ => (match j with | some j => chkT N sc j t | none => false) && eqN m "pop" && vName N sc i b && ap.endLine == cp.line
    | _ => false
  | .iadd fz i e, st => match st with
    | .AugAssign b .Add x _ => vName N sc i b && chk T N e sc x
    | _ => false
  | .put kp fz i ix e, st => match st with
    | .Assign [.Subscript b z _] x _ => vName N sc i b && swOk x && chk T N e sc x && chk T N ix sc z && notSlice z
    | _ => false
  | .aug kp fz op i e, st => match st with
    | .AugAssign b p x _ => (decide (op = .add) || decide (op = .sub)) && decide (p = opOf op) && vName N sc i b && chk T N e sc x
    | _ => false
  | .exp kp fz e, st => match st with
    | .Expr x _ => swOk x && notLc x && chk T N e sc x
    | _ => false
  | .iff kp fz c a b, st => match st with
    | .If x sa sb _ => chk T N c sc x && chkSs T N sc fr a sa && chkSs T N sc fr b sb
    | _ => false
  | .whl kp fz c b, st => match st with
    | .While x sb [] _ => chk T N c sc x && chkSs T N sc fr b sb
    | _ => false
  | .for_ fz tg it b, st => match st with
    | .For t x sb [] _ => chkT N sc tg t && chki T N it sc x && (!needT it || isTupE t) && notSet x && chkSs T N sc fr b sb
    | _ => false
  | .forR kp fz i lo hi b, st => match st with
    | .For t (.Call (.Name y _) xs [] _) sb [] _ => eqN y "range" && blt T sc y && chkN N sc i t && (match xs with
        | [x] => isNop lo && chk T N hi sc x && notStar x
        | [z, x] => !isNop lo && chk T N lo sc z && chk T N hi sc x && notStar z && notStar x
        | _ => false) && chkSs T N sc fr b sb
    | _ => false
  | .ret fz e, st => match st with
    | .Return (some x) _ => (!fr || okFr T e) && chk T N e sc x
    | _ => false
  | .retO i, st => match st with
    | .Return (some x) _ => vName N sc i x
    | _ => false
  | .retD kp fz a b, st => match st with
    | .Return (some (.List [x, y] _)) _ => chk T N a sc x && okFr T a && chk T N b sc y && notStar x && notStar y
    | _ => false
  | .appPop kp fz i j e, st => match st with
    | .Expr (.Call (.Attribute b m ap) [.Call (.Attribute c m2 ap2) [x] [] cp2] [] cp) _ => eqN m "append" && eqN m2 "pop" && vName N sc i b && vName N sc j c && notStar x && chk T N e sc x && ap.endLine == cp.line && ap2.endLine == cp2.line
    | _ => false
  | .popAt kp fz t j e, st => match st with
    | .Assign [y] (.Call (.Attribute c m ap) [x] [] cp) _ => eqN m "pop" && vName N sc t y && vName N sc j c && notStar x && chk T N e sc x && ap.endLine == cp.line
    | _ => false
  | .retN, st => match st with
    | .Return none _ => true
    | _ => false
  | .brk, st => match st with
    | .Break _ => true
    | _ => false
  | .cnt, st => match st with
    | .Continue _ => true
    | _ => false
  | .pas, st => match st with
    | .Pass _ => true
    | .Expr x _ => strE x
    | _ => false
termination_by structural s => s
def chkSs (T : Tab) (N : List Str) (sc : Scope) (fr : Bool) : LSs → List Stmt → Bool
  | .nil, ss => match ss with
    | [] => true
    | _ => false
  | .cons l ls, ss => match ss with
    | s :: ss => chkS T N sc fr l s && chkSs T N sc fr ls ss
    | _ => false
termination_by structural ss => ss
end
end LL
/-! == LL18 == -/
set_option Elab.async false
set_option linter.all false
set_option maxRecDepth 100000
set_option maxHeartbeats 4000000
/-! LL, part 18: the soundness of chkS; functions -/
namespace LL
open PySem PySem.Spec PyProof.Rows L2

section
variable {cad : Nat → Addr} {Φ : Fns} {E : XK} {X : Cx} {n : Nat} {fr : Bool} {pos : Pos}
theorem st_retN : PS X (.Return none pos) (rdS (kp X) cad Φ n fr E .retN) := PS.imp ps_retN fun Z σ H ⟨F, Rf0, Rf, ad, se, w, st, p⟩ => by
  rw [exec.eq_def] at p; dsimp only at p
  exact p .non H F ad (Ex.refl F) (Le.refl ad) st.base (Res.flat (fun _ h => nomatch h) .non)
theorem st_brk : PS X (.Break pos) (rdS (kp X) cad Φ n fr E .brk) := PS.imp ps_break fun Z σ H ⟨F, Rf0, Rf, ad, se, w, st, p⟩ => by
  rw [exec.eq_def] at p; dsimp only at p
  exact p σ H F Rf ad (Ex.refl F) (Le.refl ad) st
theorem st_cnt : PS X (.Continue pos) (rdS (kp X) cad Φ n fr E .cnt) := PS.imp ps_continue fun Z σ H ⟨F, Rf0, Rf, ad, se, w, st, p⟩ => by
  rw [exec.eq_def] at p; dsimp only at p
  exact p σ H F Rf ad (Ex.refl F) (Le.refl ad) st
theorem st_pas : PS X (.Pass pos) (rdS (kp X) cad Φ n fr E .pas) := PS.imp ps_pass fun Z σ H ⟨F, Rf0, Rf, ad, se, w, st, p⟩ => by
  rw [exec.eq_def] at p; dsimp only at p
  exact p.here st
theorem st_doc {x : Expr} (h : strE x = true) : PS X (.Expr x pos) (rdS (kp X) cad Φ n fr E .pas) := by
  unfold strE at h
  split at h
  · exact PS.imp ps_doc fun Z σ H ⟨F, Rf0, Rf, ad, se, w, st, p⟩ => by
      rw [exec.eq_def] at p; dsimp only at p
      exact p.here st
  · cases h
end
section
variable {T : Tab} {N : List Str} {sc : Scope} {cad : Nat → Addr} {Φ : Fns} {E : XK} {X : Cx} {n : Nat} {fr : Bool} {pos : Pos}
theorem few1 {env : PySem.Env} {x : Expr} {cpos : Pos} (hx : notStar x = true) : ((backTo cpos (starEach [x] env)).all (fun x => !x.1) && (backToKw cpos (keywordEach [] env)).all (fun x => x.1.isSome) && decide ([x].length + ([] : List Keyword).length + (if ([] : List Keyword).isEmpty then 0 else 1) < 30)) = true := by
  rw [star_cons hx]; rfl
theorem okI_63 {i : Int} (h : okI i = true) : -(2 ^ 63) ≤ i ∧ i < 2 ^ 63 := by
  obtain ⟨a, b⟩ := okI_of h
  omega
/-- name = own.pop(e) -/
theorem st_popAt (o : SOk T N sc cad Φ E X) {kp' fz : List Nat} {t j : Nat} {e : LE} {y c x : Expr} {apos cpos : Pos} (hy : vName N sc t y = true) (hc : vName N sc j c = true) (hx : notStar x = true) (he : chk T N e sc x = true) (hl : (apos.endLine == cpos.line) = true) :
    PS X (.Assign [y] (.Call (.Attribute c "pop" apos) [x] [] cpos) pos) (rdS (kp X) cad Φ n fr E (.popAt kp' fz t j e)) := by
  obtain ⟨z, pz, rfl, _, pg, _, _⟩ := o.name hy
  obtain ⟨u, pu, rfl, pv, _, _, _⟩ := o.name hc
  have pa := pa_cons (o.snd he).val pa_nil (star_cons hx)
  refine PS.imp (ps_asg (pe_bm PySem.F.plainAttrs_list PySem.F.slot_list_pop PySem.F.type_list_pop mt_popAt pv pa rfl (few1 hx) hl (star_cons hx) rfl) pg rfl rfl rfl) fun Z σ H ⟨F, Rf0, Rf, ad, se, w, st, p⟩ => ?_
  rw [exec.eq_def] at p; dsimp only at p
  cases eo : ownAt (frz fz se) j with
  | none => rw [eo] at p; exact p.elim
  | some es =>
    rw [eo] at p; dsimp only at p
    obtain ⟨F0, R0, x0, st0, _, _⟩ := st.frz fz
    obtain ⟨q, vs, q1, q2, _, _⟩ := st0.own j es (ownAt_of eo)
    refine ⟨.ref q, q1, list_tyV (st0.sr.rx _ _ q2), ?_⟩
    refine evI_rd st p fun k w1 H1 F1 R1 ad1 x1 l1 s1 p1 => ?_
    obtain ⟨q', vs', g1, g2, g3, g4⟩ := s1.own j es (ownAt_of eo)
    rw [q1] at g1
    cases g1
    dsimp only at p1
    cases em : ixN es.length k with
    | none => rw [em] at p1; exact p1.elim
    | some m =>
      rw [em] at p1; dsimp only at p1
      cases ed : es[m]? with
      | none => rw [ed] at p1; exact p1.elim
      | some d =>
        rw [ed] at p1; dsimp only at p1
        by_cases hk : okI k = true
        · rw [if_pos hk] at p1
          obtain ⟨k1, k2⟩ := okI_63 hk
          obtain ⟨v, hv, rv⟩ := g3.get ed
          exact ⟨q, vs', k, m, v, rfl, rfl, s1.sr.rx _ _ g2, k1, k2, by rw [g3.1]; exact (ixN_seq em).1, hv, PostS.here p1 ((s1.redo (ownAt_of eo) q1 g2 (g3.eraseIdx m) g4).set rv)⟩
        · rw [if_neg hk] at p1
          exact p1.elim
/-- own.append(other.pop(e)) -/
theorem st_appPop (o : SOk T N sc cad Φ E X) {kp' fz : List Nat} {i j : Nat} {e : LE} {b c x : Expr} {apos cpos apos2 cpos2 : Pos} (hb : vName N sc i b = true) (hc : vName N sc j c = true) (hx : notStar x = true) (he : chk T N e sc x = true) (hl : (apos.endLine == cpos.line) = true) (hl2 : (apos2.endLine == cpos2.line) = true) :
    PS X (.Expr (.Call (.Attribute b "append" apos) [.Call (.Attribute c "pop" apos2) [x] [] cpos2] [] cpos) pos) (rdS (kp X) cad Φ n fr E (.appPop kp' fz i j e)) := by
  obtain ⟨z, pz, rfl, pvi, _, _, _⟩ := o.name hb
  obtain ⟨u, pu, rfl, pvj, _, _, _⟩ := o.name hc
  have pa := pa_cons (o.snd he).val pa_nil (star_cons hx)
  have pb := pa_cons (pe_bm PySem.F.plainAttrs_list PySem.F.slot_list_pop PySem.F.type_list_pop mt_popAt pvj pa rfl (few1 hx) hl2 (star_cons hx) rfl) pa_nil (star_cons (x := .Call (.Attribute (.Name u pu) "pop" apos2) [x] [] cpos2) rfl)
  refine PS.imp (ps_expr (pe_bm PySem.F.plainAttrs_list PySem.F.slot_list_append PySem.F.type_list_append mt_append pvi pb rfl (few1 rfl) hl (star_cons rfl) rfl) rfl) fun Z σ H ⟨F, Rf0, Rf, ad, se, w, st, p⟩ => ?_
  rw [exec.eq_def] at p; dsimp only at p
  cases ei : ownAt (frz fz se) i with
  | none => rw [ei] at p; exact p.elim
  | some ds =>
    cases ej : ownAt (frz fz se) j with
    | none => rw [ei, ej] at p; exact p.elim
    | some es =>
      rw [ei, ej] at p; dsimp only at p
      by_cases hij : i = j
      · rw [if_pos hij] at p; exact p.elim
      · rw [if_neg hij] at p
        obtain ⟨F0, R0, x0, st0, _, _⟩ := st.frz fz
        obtain ⟨a, vs, a1, a2, _, _⟩ := st0.own i ds (ownAt_of ei)
        obtain ⟨q, ws, q1, q2, _, _⟩ := st0.own j es (ownAt_of ej)
        refine ⟨.ref a, a1, list_tyV (st0.sr.rx _ _ a2), .ref q, q1, list_tyV (st0.sr.rx _ _ q2), ?_⟩
        refine evI_rd st p fun k w1 H1 F1 R1 ad1 x1 l1 s1 p1 => ?_
        obtain ⟨q', ws', g1, g2, g3, g4⟩ := s1.own j es (ownAt_of ej)
        rw [q1] at g1
        cases g1
        dsimp only at p1
        cases em : ixN es.length k with
        | none => rw [em] at p1; exact p1.elim
        | some m =>
          rw [em] at p1; dsimp only at p1
          cases ed : es[m]? with
          | none => rw [ed] at p1; exact p1.elim
          | some d =>
            rw [ed] at p1; dsimp only at p1
            by_cases hk : ds.length < big ∧ okI k = true
            · rw [if_pos hk] at p1
              obtain ⟨k1, k2⟩ := okI_63 hk.2
              obtain ⟨v, hv, rv⟩ := g3.get ed
              have s2 := s1.redo (ownAt_of ej) q1 g2 (g3.eraseIdx m) g4
              have ei' : ((frz fz se).set j (.own (es.eraseIdx m)))[i]? = some (.own ds) := by rw [List.getElem?_set_ne (Ne.symm hij)]; exact ownAt_of ei
              obtain ⟨a', vs', b1, b2, b3, b4⟩ := s2.own i ds ei'
              rw [a1] at b1
              cases b1
              have hlen : vs'.length < sizeLine := by
                have h := hk.1
                rw [b3.1, sizeLine_eq]; unfold big at h; exact h
              exact ⟨q, ws', k, m, v, rfl, rfl, s1.sr.rx _ _ g2, k1, k2, by rw [g3.1]; exact (ixN_seq em).1, hv, a, vs', v, rfl, rfl, s2.sr.rx _ _ b2, hlen, PostS.here p1 (s2.redo ei' a1 b2 (b3.append (.cons rv .nil)) b4)⟩
            · rw [if_neg hk] at p1
              exact p1.elim
/-- a new source of draws is given back -/
theorem SR.newDeal {F Rf : Hp} {ad : Ads} {w : W} {H : Hp} {q p : Addr} {cs : List Int} {k : Int} (s : SR F Rf ad w H) {Rf0 : Hp} (x : Ex Rf0 Rf) (hq : Rf q = some (.lst (cs.map V.int))) (r0 : Rf0 q = none) (hp : H p = none) :
    SR F Rf0 (ad ++ [(p, q)]) (w ++ [.deal cs k]) (upd H p (.lst [.ref q, .int k])) := by
  have s0 := s.less x
  have hHq := s.rx _ _ hq
  have nqp : q ≠ p := ne_of_none hHq hp
  have old : ∀ (n : Nat) (r : Addr × Addr), ad[n]? = some r → r.1 ≠ p ∧ r.2 ≠ p ∧ r.1 ≠ q ∧ r.2 ≠ q := fun n r h => by
    obtain ⟨⟨o1, h1⟩, ⟨o2, h2⟩⟩ := s.wk.there h
    obtain ⟨n1, n2⟩ := s.apart hq n r h
    exact ⟨ne_of_none h1 hp, ne_of_none h2 hp, n1, n2⟩
  have cs2 : ∀ {α : Type} {l : List α} {a b : α} {n : Nat}, (l ++ [a])[n]? = some b → l[n]? = some b ∨ (n = l.length ∧ b = a) := fun {α l a b n} h => by
    by_cases hn : n < l.length
    · rw [List.getElem?_append_left hn] at h; exact .inl h
    · rw [List.getElem?_append_right (by omega)] at h
      cases e : n - l.length with
      | zero => rw [e] at h; cases h; exact .inr ⟨by omega, rfl⟩
      | succ m => rw [e] at h; cases h
  have hl := s.wk.len
  refine ⟨fun a o e => ?_, fun a o e => ?_, s0.dj, ⟨by simp [hl], fun n r c h h2 => ?_, fun n r h => ?_, fun n m r t hr ht hnm => ?_⟩⟩
  · rw [upd_ne (ne_of_none (s.fx _ _ e) hp)]; exact s.fx _ _ e
  · rw [upd_ne (ne_of_none (s0.rx _ _ e) hp)]; exact s0.rx _ _ e
  · rcases cs2 h with h | ⟨e1, rfl⟩
    · rcases cs2 h2 with h2 | ⟨e2, _⟩
      · obtain ⟨n1, n2, _, _⟩ := old n r h
        exact (s.wk.cell n r c h h2).at (upd_ne n1) (upd_ne n2)
      · have := (List.getElem?_eq_some_iff.mp h).1
        omega
    · rcases cs2 h2 with h2 | ⟨e2, rfl⟩
      · have := (List.getElem?_eq_some_iff.mp h2).1
        omega
      · exact ⟨upd_same, by show upd H p _ q = _; rw [upd_ne nqp]; exact hHq, Ne.symm nqp⟩
  · rcases cs2 h with h | ⟨_, rfl⟩
    · exact s0.wk.f1 n r h
    · exact ⟨s.fnone hp, s.dj _ _ hq, s0.rnone hp, r0⟩
  · rcases cs2 hr with hr | ⟨e1, rfl⟩
    · rcases cs2 ht with ht | ⟨e2, rfl⟩
      · exact s.wk.apart n m r t hr ht hnm
      · obtain ⟨n1, n2, n3, n4⟩ := old n r hr
        exact ⟨n1, n3, n2, n4⟩
    · rcases cs2 ht with ht | ⟨e2, rfl⟩
      · obtain ⟨n1, n2, n3, n4⟩ := old m t ht
        exact ⟨Ne.symm n1, Ne.symm n2, Ne.symm n3, Ne.symm n4⟩
      · omega
theorem st_retD (o : SOk T N sc cad Φ E X) {kp' fz : List Nat} {a b : LE} {x y : Expr} {p1 : Pos} (ha : chk T N a sc x = true) (hf : okFr T a = true) (hb : chk T N b sc y = true) (hx : notStar x = true) (hy : notStar y = true) :
    PS X (.Return (some (.List [x, y] p1)) pos) (rdS (kp X) cad Φ n fr E (.retD kp' fz a b)) := by
  have pa := pa_cons ((o.snd ha).pe true fun _ => hf) (pa_cons (o.snd hb).val pa_nil (star_cons hy)) (star_cons hx)
  refine PS.imp (ps_ret (pe_lst pa)) fun Z σ H ⟨F, Rf0, Rf, ad, se, w, st, p⟩ => ?_
  rw [exec.eq_def] at p; dsimp only at p
  refine evS_rd (frE := true) st p fun d w1 v H1 F1 R1 ad1 x1 l1 s1 r1 p1 => ?_
  cases d with
  | lst ds =>
    obtain ⟨q, vs, rfl, hq, r, fq, rq, nq⟩ := r1
    have s2 := s1.pushOwn hq r fq rq nq
    have p1 : PostS (kp X) cad fr Rf0 E F1 ad1 ((toI (evS Φ kp' [] b (frz fz se) w1)).thenS fun (k, w2) => match D.toInts ds with
      | some cs => .rt (.ob w2.length) (w2 ++ [.deal cs k])
      | none => .bad) Z := p1
    rw [toI_then] at p1
    refine evS_rdA (frE := false) s2 s1.len p1 fun d2 w2 v2 H2 F2 ad2 x2 l2 s3 r3 p3 => ?_
    cases d2 with
    | int k =>
      have p3 : PostS (kp X) cad fr Rf0 E F2 ad2 (match D.toInts ds with
        | some cs => .rt (.ob w2.length) (w2 ++ [.deal cs k])
        | none => .bad) Z := p3
      cases ei : D.toInts ds with
      | none => rw [ei] at p3; exact p3.elim
      | some cs =>
        rw [ei] at p3
        have p3 : PostS (kp X) cad fr Rf0 E F2 ad2 (.rt (.ob w2.length) (w2 ++ [.deal cs k])) Z := p3
        rw [r3.rp.int_inv]
        obtain ⟨q', vs', g1, g2, g3, g4⟩ := s3.own (frz fz se).length ds (by simp)
        rw [s1.len, List.getElem?_append_right (Nat.le_refl _)] at g1
        simp only [Nat.sub_self, List.getElem?_cons_zero] at g1
        cases g1
        rw [toInts_of ei] at g3
        rw [rp_ints g3] at g2
        refine ⟨by rw [sizeLine_eq]; exact (by decide : (2 : Nat) ≤ 16777216), fun pp hpp => ?_⟩
        have s4 := s3.sr.newDeal (k := k) s3.ex g2 g4 hpp
        have hl : ad2.length = w2.length := s3.sr.wk.len
        refine p3 (.ref pp) _ F2 (ad2 ++ [(pp, q)]) (Ex.refl F2) (fun n r h => ?_) s4 (Res.flat (fun _ h => nomatch h) ?_)
        · rw [List.getElem?_append_left (List.getElem?_eq_some_iff.mp h).1]; exact h
        · exact Rp.ob (p := (pp, q)) (by rw [List.getElem?_append_right (by omega), hl]; simp)
    | _ => exact False.elim p3
  | _ => exact False.elim p1
end
mutual
theorem sndS {T : Tab} {N : List Str} {sc : Scope} {cad : Nat → Addr} {Φ : Fns} {E : XK} {X : Cx} {n : Nat} {fr : Bool} (o : SOk T N sc cad Φ E X) : ∀ (l : LS) (st : Stmt), chkS T N sc fr l st = true → PS X st (rdS (kp X) cad Φ n fr E l)
  | .set kp' fz tg e, st, h => by
    rw [chkS.eq_def] at h; dsimp only at h
    split at h
    · simp only [Bool.and_eq_true] at h
      obtain ⟨⟨⟨h1, h2⟩, h3⟩, h4⟩ := h
      exact st_set o h1 h2 h3 h4
    · cases h
  | .new fz i e, st, h => by
    rw [chkS.eq_def] at h; dsimp only at h
    split at h
    · simp only [Bool.and_eq_true] at h
      obtain ⟨⟨⟨h1, h2⟩, h3⟩, h4⟩ := h
      exact st_new o h1 h2 h3 h4
    · cases h
  | .par kp' fz is os es, st, h => by
    rw [chkS.eq_def] at h; dsimp only at h
    split at h
    · simp only [Bool.and_eq_true, Bool.or_eq_true, decide_eq_true_eq] at h
      obtain ⟨⟨⟨⟨h1, h2⟩, h3⟩, h4⟩, h5⟩ := h
      exact st_par o h1 h2 h3 h4 h5
    · cases h
  | .app kp' fz i e, st, h => by
    rw [chkS.eq_def] at h; dsimp only at h
    split at h
    · simp only [Bool.and_eq_true] at h
      obtain ⟨⟨⟨⟨h1, h2⟩, h3⟩, h4⟩, h5⟩ := h
      have e := eqN_eq h1
      subst e
      exact st_app o h2 h3 h4 h5
    · cases h
  | .ext fz i e, st, h => by
    rw [chkS.eq_def] at h; dsimp only at h
    split at h
    · simp only [Bool.and_eq_true] at h
      obtain ⟨⟨⟨⟨h1, h2⟩, h3⟩, h4⟩, h5⟩ := h
      have e := eqN_eq h1
      subst e
      exact st_ext o h2 h3 h4 h5
    · cases h
  | .pop j i, st, h => by
    rw [chkS.eq_def] at h; dsimp only at h
    split at h
    · simp only [Bool.and_eq_true] at h
      obtain ⟨⟨⟨h0, h1⟩, h2⟩, h3⟩ := h
      have e := eqN_eq h1
      subst e
      cases j with
      | some _ => cases h0
      | none => exact st_pop o h2 h3
    · simp only [Bool.and_eq_true] at h
      obtain ⟨⟨⟨h0, h1⟩, h2⟩, h3⟩ := h
      have e := eqN_eq h1
      subst e
      cases j with
      | none => cases h0
      | some j => exact st_popT o h2 h0 h3
    · cases h
  | .iadd fz i e, st, h => by
    rw [chkS.eq_def] at h; dsimp only at h
    split at h
    · simp only [Bool.and_eq_true] at h
      exact st_iadd o h.1 h.2
    · cases h
  | .put kp' fz i ix e, st, h => by
    rw [chkS.eq_def] at h; dsimp only at h
    split at h
    · simp only [Bool.and_eq_true] at h
      obtain ⟨⟨⟨⟨h1, h2⟩, h3⟩, h4⟩, h5⟩ := h
      exact st_put o h1 h2 h3 h4 h5
    · cases h
  | .aug kp' fz op i e, st, h => by
    rw [chkS.eq_def] at h; dsimp only at h
    split at h
    · simp only [Bool.and_eq_true, Bool.or_eq_true, decide_eq_true_eq] at h
      obtain ⟨⟨⟨h1, h2⟩, h3⟩, h4⟩ := h
      subst h2
      exact st_aug o h1 h3 h4
    · cases h
  | .exp kp' fz e, st, h => by
    rw [chkS.eq_def] at h; dsimp only at h
    split at h
    · simp only [Bool.and_eq_true] at h
      exact st_exp o h.1.1 h.1.2 h.2
    · cases h
  | .iff kp' fz c a b, st, h => by
    rw [chkS.eq_def] at h; dsimp only at h
    split at h
    · simp only [Bool.and_eq_true] at h
      exact st_iff o h.1.1 (sndSs o a _ h.1.2) (sndSs o b _ h.2)
    · cases h
  | .whl kp' fz c b, st, h => by
    rw [chkS.eq_def] at h; dsimp only at h
    split at h
    · simp only [Bool.and_eq_true] at h
      exact st_whl o h.1 (sndSs o b _ h.2)
    · cases h
  | .for_ fz tg it b, st, h => by
    rw [chkS.eq_def] at h; dsimp only at h
    split at h
    · simp only [Bool.and_eq_true] at h
      obtain ⟨⟨⟨⟨h1, h2⟩, h3⟩, h4⟩, h5⟩ := h
      exact st_for o h1 h2 (fun hn => by rw [hn] at h3; simpa using h3) h4 (sndSs o b _ h5)
    · cases h
  | .forR kp' fz i lo hi b, st, h => by
    rw [chkS.eq_def] at h; dsimp only at h
    split at h
    · rename_i t y p xs pos' sb pos
      simp only [Bool.and_eq_true] at h
      obtain ⟨⟨⟨⟨h1, h2⟩, h3⟩, h4⟩, h5⟩ := h
      have hb := sndSs (n := n) o b _ h5
      split at h4
      · simp only [Bool.and_eq_true] at h4
        exact st_forR1 o h4.1.1 h1 h2 h3 h4.1.2 h4.2 hb
      · simp only [Bool.and_eq_true, Bool.not_eq_true'] at h4
        exact st_forR2 o h4.1.1.1.1 h1 h2 h3 h4.1.1.1.2 h4.1.1.2 h4.1.2 h4.2 hb
      · cases h4
    · cases h
  | .ret fz e, st, h => by
    rw [chkS.eq_def] at h; dsimp only at h
    split at h
    · simp only [Bool.and_eq_true, Bool.or_eq_true, Bool.not_eq_true'] at h
      refine st_ret o (fun hf => ?_) h.2
      rcases h.1 with q | q
      · rw [hf] at q; cases q
      · exact q
    · cases h
  | .retO i, st, h => by
    rw [chkS.eq_def] at h; dsimp only at h
    split at h
    · exact st_retO o h
    · cases h
  | .retD kp' fz a b, st, h => by
    rw [chkS.eq_def] at h; dsimp only at h
    split at h
    · simp only [Bool.and_eq_true] at h
      exact st_retD o h.1.1.1.1 h.1.1.1.2 h.1.1.2 h.1.2 h.2
    · cases h
  | .appPop kp' fz i j e, st, h => by
    rw [chkS.eq_def] at h; dsimp only at h
    split at h
    · simp only [Bool.and_eq_true] at h
      obtain ⟨⟨⟨⟨⟨⟨⟨h1, h2⟩, h3⟩, h4⟩, h5⟩, h6⟩, h7⟩, h8⟩ := h
      have e1 := eqN_eq h1
      have e2 := eqN_eq h2
      subst e1 e2
      exact st_appPop o h3 h4 h5 h6 h7 h8
    · cases h
  | .popAt kp' fz t j e, st, h => by
    rw [chkS.eq_def] at h; dsimp only at h
    split at h
    · simp only [Bool.and_eq_true] at h
      obtain ⟨⟨⟨⟨⟨h1, h2⟩, h3⟩, h4⟩, h5⟩, h6⟩ := h
      have e1 := eqN_eq h1
      subst e1
      exact st_popAt o h2 h3 h4 h5 h6
    · cases h
  | .retN, st, h => by
    rw [chkS.eq_def] at h; dsimp only at h
    split at h
    · exact st_retN
    · cases h
  | .brk, st, h => by
    rw [chkS.eq_def] at h; dsimp only at h
    split at h
    · exact st_brk
    · cases h
  | .cnt, st, h => by
    rw [chkS.eq_def] at h; dsimp only at h
    split at h
    · exact st_cnt
    · cases h
  | .pas, st, h => by
    rw [chkS.eq_def] at h; dsimp only at h
    split at h
    · exact st_pas
    · exact st_doc h
    · cases h
termination_by structural l => l
theorem sndSs {T : Tab} {N : List Str} {sc : Scope} {cad : Nat → Addr} {Φ : Fns} {E : XK} {X : Cx} {n : Nat} {fr : Bool} (o : SOk T N sc cad Φ E X) : ∀ (l : LSs) (st : List Stmt), chkSs T N sc fr l st = true → PSs X st (rdSs (kp X) cad Φ n fr E l)
  | .nil, st, h => by
    cases st with
    | nil =>
      exact PSs.imp pss_nil fun Z σ H ⟨F, Rf0, Rf, ad, se, w, st, p⟩ => by
        rw [execs] at p
        exact p.here st
    | cons _ _ => exact absurd (show false = true from h) (by decide)
  | .cons l ls, st, h => by
    cases st with
    | nil => exact absurd (show false = true from h) (by decide)
    | cons s ss =>
      rw [chkSs] at h
      rw [Bool.and_eq_true] at h
      refine PSs.imp (pss_cons (sndS (n := n) o l s h.1) (sndSs (n := n) o ls ss h.2)) fun Z σ H ⟨F, Rf0, Rf, ad, se, w, st, p⟩ => ?_
      rw [execs] at p
      exact ⟨F, Rf0, Rf, ad, se, w, st, PostS.seq p fun s2 w2 σ2 H2 F2 R2 ad2 x2 l2 st2 p2 => ⟨F2, Rf0, R2, ad2, s2, w2, st2, p2⟩⟩
termination_by structural l => l
end

/-! ### a def -/
structure FnD where
  np : Nat
  nl : Nat
  body : LSs
/-- a call of a def: its body, the loops' turns at most n -/
def runB (Φ : Fns) (n : Nat) (d : FnD) (args : List D) (w : W) : R (D × W) :=
  if args.length = d.np then match execs Φ n d.body (args.map .val ++ List.replicate (d.nl - d.np) .no) w with
    | .nx _ w => .ok (.non, w)
    | .rt v w => .ok (v, w)
    | .er e w => .er e w
    | _ => .bad
  else .bad
end LL
/-! == LL19 == -/
set_option Elab.async false
set_option linter.all false
set_option maxRecDepth 100000
set_option maxHeartbeats 4000000
/-! LL, part 19: defs, and the law's source of draws -/
namespace LL
open PySem PySem.Spec PyProof.Rows L2

/-! ### a def of the text -/
/-- what is told of a def: its text, its names (the parameters first), what it says -/
structure Df where
  st : Stmt
  i : FnI
  N : List Str
  d : FnD
def noFree (sc : Scope) : Bool := sc.names.all fun y => match y.2 with | .free => false | _ => true
def isFnK (sc : Scope) : Bool := match sc.kind with | .function => true | _ => false
/-- its scope is a plain def's, its statements say the body's -/
def Df.ok (T : Tab) (f : Df) : Bool := isFnK (defScope f.st) && !(defScope f.st).isCoroutine && !(defScope f.st).isGenerator && decide f.N.Nodup && decide (f.N.take f.i.ps.length = f.i.ps) && f.i.ps.all (setb (defScope f.st)) && noFree (defScope f.st) &&
  decide (f.i.ps.length = f.d.np) && decide (f.N.length = f.d.nl) && chkSs T f.N (defScope f.st) f.i.fr f.d.body (defBody f.st)
theorem fnScope_of {T : Tab} {f : Df} (h : f.ok T = true) : FnScope f.N f.i.ps (defScope f.st) := by
  unfold Df.ok at h
  simp only [Bool.and_eq_true, Bool.not_eq_true', decide_eq_true_eq] at h
  obtain ⟨⟨⟨⟨⟨⟨⟨⟨⟨h1, h2⟩, h3⟩, h4⟩, h5⟩, h6⟩, h7⟩, h8⟩, h9⟩, h10⟩ := h
  refine ⟨?_, h2, h3, h4, h5, fun x hx => ?_, fun y hy => ?_⟩
  · unfold isFnK at h1
    split at h1
    · assumption
    · cases h1
  · exact setb_loc' (List.all_eq_true.mp h6 x hx)
  · have := List.all_eq_true.mp h7 y hy
    intro e
    rw [e] at this
    cases this
where
  setb_loc' {sc : Scope} {x : Str} (h : setb sc x = true) : sc.names.lookup x = some .local ∨ sc.names.lookup x = some .cell := by
    unfold setb at h
    split at h
    · rename_i e; exact .inl e
    · rename_i e; exact .inr e
    · cases h
/-- the state at a def's entry -/
theorem start_st {K : KP} {F Rf : Hp} {ad : Ads} {w : W} {H : Hp} {vs : List V} {ds : List D} {N : List Str} (s : SR F Rf ad w H) (r : RpAll K F ad vs ds) : StR K F Rf Rf ad (ds.map .val ++ List.replicate (N.length - ds.length) .no) w (L2.start N vs) H := by
  have nown : ∀ (i : Nat) (es : List D), (ds.map Slot.val ++ List.replicate (N.length - ds.length) .no)[i]? ≠ some (.own es) := fun i es h => by
    by_cases hi : i < (ds.map Slot.val).length
    · rw [List.getElem?_append_left hi, List.getElem?_map] at h
      cases e : ds[i]? with
      | none => rw [e] at h; cases h
      | some d => rw [e] at h; cases h
    · rw [List.getElem?_append_right (by omega), List.getElem?_replicate] at h
      split at h <;> cases h
  refine ⟨s, Ex.refl Rf, ?_, fun i d h => ?_, fun i es h => absurd h (nown i es), fun i j es fs p _ h => absurd h (nown i es)⟩
  · unfold L2.start
    simp [r.1]
  · by_cases hi : i < (ds.map Slot.val).length
    · rw [List.getElem?_append_left hi, List.getElem?_map] at h
      cases e : ds[i]? with
      | none => rw [e] at h; cases h
      | some d' =>
        rw [e] at h
        cases h
        obtain ⟨v, hv, rv⟩ := r.get e
        refine ⟨v, ?_, rv⟩
        unfold L2.start
        have hlt := (List.getElem?_eq_some_iff.mp hv).1
        rw [List.getElem?_append_left (by simpa using hlt), List.getElem?_map, hv]
        rfl
    · rw [List.getElem?_append_right (by omega), List.getElem?_replicate] at h
      split at h <;> cases h
/-- a def keeps what its term says -/
theorem fn_sound {T : Tab} {cad : Nat → Addr} {Φ : Fns} {P : Program} {w : World} {K : PySem.W.Frag} {mg : Str → Option Value} {base : Heap} {f : Df} {k m : Nat} {a : Addr} {fd : FuncData} {x qual : Str} (hf : f.ok T = true) (F : Fun K x qual f.st a fd)
    (hx : ∀ (X : Cx), X.prog = P → X.w = w → X.K = K → X.mg = mg → X.base = base → X.calm = true → Room k X.A → X.N = f.N → XOk T f.N cad Φ X) :
    FnOk P w K mg base (L2.CX P w) (k + 1) a fd f.i.ps (spOf (K, w.params) cad f.i.fr (runB Φ m f.d)) := by
  have S := fnScope_of hf
  unfold Df.ok at hf
  simp only [Bool.and_eq_true, Bool.not_eq_true', decide_eq_true_eq] at hf
  obtain ⟨⟨⟨⟨⟨⟨⟨⟨⟨h1, h2⟩, h3⟩, h4⟩, h5⟩, h6⟩, h7⟩, h8⟩, h9⟩, h10⟩ := hf
  refine F.okX S (fun vs H Q E h => ?_) (fun cdv A outer s H vs Q E hr h => ?_)
  · obtain ⟨F, Rf, ad, ds, w', s, r, p⟩ := h
    unfold runB at p
    split at p
    · rename_i hl
      rw [r.1, hl, h8]
    · exact p.elim
  · obtain ⟨F', Rf, ad, ds, w', sr, r, p⟩ := h
    unfold runB at p
    split at p
    · rename_i hl
      have o : SOk T f.N (defScope f.st) cad Φ E (cxOf (L2.CX P w) P w K mg base f.N qual (defScope f.st) a cdv A outer s H E) :=
        ⟨hx _ rfl rfl rfl rfl rfl rfl hr rfl, rfl, fun _ => rfl, S.kind, passes_of rfl, takes_of rfl rfl rfl rfl⟩
      refine ⟨_, sndSs (n := m) o f.d.body (defBody f.st) h10, F', Rf, Rf, ad, _, w', start_st (N := f.N) sr r, ?_⟩
      have hn : f.N.length - ds.length = f.d.nl - f.d.np := by rw [h9, hl]
      rw [hn]
      cases e : execs Φ m f.d.body (ds.map .val ++ List.replicate (f.d.nl - f.d.np) .no) w' with
      | nx se w2 =>
        rw [e] at p
        exact fun σ H2 F2 R2 ad2 x l st => p .non H2 F2 ad2 x l st.base (Res.flat (fun _ h => nomatch h) .non)
      | rt d w2 => rw [e] at p; exact p
      | er e' w2 => rw [e] at p; exact p
      | bk _ _ => rw [e] at p; exact p.elim
      | ct _ _ => rw [e] at p; exact p.elim
      | bad => rw [e] at p; exact p.elim
    · exact p.elim
end LL
/-! == LL20 == -/
set_option Elab.async false
set_option linter.all false
set_option maxRecDepth 100000
set_option maxHeartbeats 4000000
/-! LL, part 20: _law_any: the next draw -/
namespace LL
open PySem PySem.Spec PyProof.Rows L2

/-! ### the text -/
section
variable (q : Nat → Pos)
abbrev deal0 (i : Nat) : Expr := .Subscript (.Name "deal" (q i)) (.Constant (.int 0) 0 (q (i + 1))) (q (i + 2))
abbrev deal1 (i : Nat) : Expr := .Subscript (.Name "deal" (q i)) (.Constant (.int 1) 0 (q (i + 1))) (q (i + 2))
def bodyAny : List Stmt := [
  .While (.BoolOp .And [.Compare (deal0 q 0) [.NotEq] [.List [] (q 3)] (q 4), .Compare (.Subscript (deal0 q 5) (.UnaryOp .USub (.Constant (.int 1) 0 (q 8)) (q 9)) (q 10)) [.Eq] [.Constant (.int 0) 0 (q 11)] (q 12)] (q 13))
    [.Expr (.Call (.Attribute (deal0 q 14) "pop" (q 17)) [] [] (q 18)) (q 19)] [] (q 20),
  .If (.Compare (deal0 q 21) [.NotEq] [.List [] (q 24)] (q 25))
    [.Assign [.Name "rest" (q 26)] (.Call (.Name "int" (q 27)) [.Call (.Attribute (deal0 q 28) "pop" (q 31)) [] [] (q 32)] [] (q 33)) (q 34),
     .Expr (.Call (.Attribute (deal0 q 35) "append" (q 38)) [.BinOp (.Name "rest" (q 39)) .FloorDiv (.Name "bound" (q 40)) (q 41)] [] (q 42)) (q 43),
     .Return (some (.BinOp (.Call (.Name "int" (q 44)) [.Name "rest" (q 45)] [] (q 46)) .Mod (.Name "bound" (q 47)) (q 48))) (q 49)] [] (q 50),
  .Assign [deal1 q 51] (.BinOp (.Call (.Name "int" (q 54)) [.BinOp (.BinOp (deal1 q 55) .Mult (.Constant (.int 40693) 0 (q 58)) (q 59)) .Add (.Constant (.int 71) 0 (q 60)) (q 61)] [] (q 62)) .Mod (.Constant (.int 2147483647) 0 (q 63)) (q 64)) (q 65),
  .Return (some (.BinOp (.Call (.Name "int" (q 66)) [.BinOp (deal1 q 67) .FloorDiv (.Constant (.int 64) 0 (q 70)) (q 71)] [] (q 72)) .Mod (.Name "bound" (q 73)) (q 74))) (q 75)]
end
def stripZ (cs : List Int) : List Int := (cs.reverse.dropWhile fun c => c == 0).reverse
theorem stripZ_nil : stripZ [] = [] := rfl
theorem stripZ_zero (cs : List Int) : stripZ (cs ++ [0]) = stripZ cs := by simp [stripZ, List.dropWhile]
theorem stripZ_stop (cs : List Int) (c : Int) (h : c ≠ 0) : stripZ (cs ++ [c]) = cs ++ [c] := by
  have : (c == 0) = false := by simpa using h
  simp [stripZ, List.dropWhile, this]
/-- the next draw below bound -/
def anyC (cs : List Int) (b bound : Int) : Int × Cell := match (stripZ cs).getLast? with
  | some r => (r % bound, .deal ((stripZ cs).dropLast ++ [r / bound]) b)
  | none => ((b * 40693 + 71) % 2147483647 / 64 % bound, .deal [] ((b * 40693 + 71) % 2147483647))
def anyP : List D → W → R (D × W)
  | [.ob n, .int bound], w => match w[n]? with
    | some (.deal cs b) => if 0 < bound ∧ bound < 1073741824 ∧ cs.length ≤ 1000 then .ok (.int (anyC cs b bound).1, w.set n (anyC cs b bound).2) else .bad
    | none => .bad
  | _, _ => .bad
/-- a != b, of plain data: the heap stays -/
theorem c_neR {X : Cx} (hu : X.A.units + 64 < cLine) : OpR X (compareOp .NotEq) (fun x y H Q => ∃ F ad d e b, Ex F H ∧ Rp (kp X) F ad x d ∧ Rp (kp X) F ad y e ∧ eqD d e = some b ∧ Q (.bl (!b)) H) := by
  intro pins s σ H x y v u Q I rx ry ⟨F, ad, d, e, b, fx, r1, r2, ef, q⟩
  obtain ⟨rfl, ⟨p1, p2, dz⟩ | ⟨xs, ys, rfl, rfl, hk'⟩⟩ := eqD_of ef
  · obtain ⟨as, q1⟩ := Dp.reads I d.toPy x v (dp_of fx d x p1 r1) rx
    obtain ⟨bs, q2⟩ := Dp.reads I e.toPy y u (dp_of fx e y p2 r2) ry
    refine PySem.SeqAt.rcNe_plain q1 q2 (plain_toPy d p1) (plain_toPy e p2) (by rw [depth_toPy, depth_toPy]; omega) X.prog X.w _ _ ⟨.bl _, H, I, rfl, ?_⟩
    rw [eqv_toPy d e p1 p2]
    exact q
  · obtain ⟨a, vs, rfl, h1, k1⟩ := r1.lst_inv
    obtain ⟨b, ws, rfl, h2, k2⟩ := r2.lst_inv
    cases rx; cases ry
    obtain ⟨_, its, n, r, l1, e1⟩ := I.lstM (fx _ _ h1)
    obtain ⟨_, its', n', r', l2, e2⟩ := I.lstM (fx _ _ h2)
    refine PySem.SeqAt.RcNeAt.lists_lengths ⟨_, e1, rfl, _, rfl⟩ ⟨_, e2, rfl, _, rfl⟩ (by simp only [List.size_toArray, bne_iff_ne]; rw [← l1, ← l2, k1.1, k2.1]; exact hk') (by omega) X.prog X.w _ _ ⟨.bl true, H, I, rfl, ?_⟩
    have q : Q (.bl (!D.eqvs xs ys)) H := q
    rw [eqvs_len xs ys hk'] at q
    exact q
/-! ### the store -/
section
variable {F Rf : Hp} {ad : Ads} {w : W} {H : Hp} {n : Nat} {p1 p2 : Addr} {cs cs' : List Int} {b b' : Int}
theorem SR.deal (s : SR F Rf ad w H) (h : ad[n]? = some (p1, p2)) (hw : w[n]? = some (.deal cs b)) : H p1 = some (.lst [.ref p2, .int b]) ∧ H p2 = some (.lst (cs.map V.int)) ∧ p1 ≠ p2 := s.wk.cell n (p1, p2) _ h hw
theorem SR.cellSet {H' : Hp} {c : Cell} (s : SR F Rf ad w H) (h : ad[n]? = some (p1, p2)) (same : ∀ a, a ≠ p1 → a ≠ p2 → H' a = H a) (hc : CellOk H' (p1, p2) c) : SR F Rf ad (w.set n c) H' := by
  obtain ⟨f1, f2, f3, f4⟩ := s.wk.f1 n (p1, p2) h
  refine ⟨fun a o e => ?_, fun a o e => ?_, s.dj, ⟨by simp [s.wk.len], fun m r c' hr hc' => ?_, s.wk.f1, s.wk.apart⟩⟩
  · rw [same a (fun q => by rw [q, f1] at e; cases e) (fun q => by rw [q, f2] at e; cases e)]; exact s.fx _ _ e
  · rw [same a (fun q => by rw [q, f3] at e; cases e) (fun q => by rw [q, f4] at e; cases e)]; exact s.rx _ _ e
  · rcases get_set_of hc' with ⟨rfl, rfl, _⟩ | ⟨hnm, hc'⟩
    · rw [h] at hr; cases hr; exact hc
    · obtain ⟨a1, a2, a3, a4⟩ := s.wk.apart n m (p1, p2) r h hr hnm
      exact (s.wk.cell m r c' hr hc').at (same _ (Ne.symm a1) (Ne.symm a3)) (same _ (Ne.symm a2) (Ne.symm a4))
theorem SR.setList (s : SR F Rf ad w H) (h : ad[n]? = some (p1, p2)) (hw : w[n]? = some (.deal cs b)) : SR F Rf ad (w.set n (.deal cs' b)) (upd H p2 (.lst (cs'.map V.int))) := by
  obtain ⟨h1, h2, h3⟩ := s.deal h hw
  exact s.cellSet h (fun a _ n2 => upd_ne n2) ⟨by show upd H p2 _ p1 = _; rw [upd_ne h3]; exact h1, upd_same, h3⟩
theorem SR.setNum (s : SR F Rf ad w H) (h : ad[n]? = some (p1, p2)) (hw : w[n]? = some (.deal cs b)) : SR F Rf ad (w.set n (.deal cs b')) (upd H p1 (.lst [.ref p2, .int b'])) := by
  obtain ⟨h1, h2, h3⟩ := s.deal h hw
  exact s.cellSet h (fun a n1 _ => upd_ne n1) ⟨upd_same, by show upd H p1 _ p2 = _; rw [upd_ne (Ne.symm h3)]; exact h2, h3⟩
end
theorem ints_rp {K : KP} {F : Hp} {a : Addr} {cs : List Int} (h : F a = some (.lst (cs.map V.int))) : Rp K F [] (.ref a) (.lst (cs.map D.int)) := RpAll.lst h (.ints cs)
theorem plain_ints : ∀ cs : List Int, D.plains (cs.map D.int) = true
  | [] => rfl
  | c :: cs => by rw [List.map_cons, D.plains, plain_ints cs]; rfl
theorem eqD_nil : ∀ cs : List Int, eqD (.lst (cs.map D.int)) (.lst []) = some cs.isEmpty
  | [] => rfl
  | c :: cs => by
    unfold eqD D.eqOk
    have : ((D.lst (List.map D.int (c :: cs))).plain && (D.lst []).plain && decide (min (D.lst (List.map D.int (c :: cs))).depth (D.lst []).depth ≤ 60) || (match D.lst (List.map D.int (c :: cs)), D.lst [] with | .lst xs, .lst ys => xs.length != ys.length | _, _ => false)) = true := by simp
    rw [if_pos this]
    rfl

/-! ### the walk -/
def nAny : List Str := ["deal", "bound", "rest"]
section
variable {X : Cx} {cad : Nat → Addr} {q : Nat → Pos}
structure AnyX (X : Cx) : Prop where
  calm : X.calm = true
  N : X.N = nAny
  un : X.A.units + 64 < cLine
  fn : ∀ x, X.fn x = true
  ld : X.env.scope.names.lookup ("deal" : Str) = some NameKind.local
  lb : X.env.scope.names.lookup ("bound" : Str) = some NameKind.local
  lr : X.env.scope.names.lookup ("rest" : Str) = some NameKind.local
  gi : Gl X "int"
  mi : X.mg "int" = none
  po : PassesOwn (model X.prog X.w) X.A X.env X.xe
theorem nAny_nd : nAny.Nodup := by decide +kernel
/-- the lines of the calls -/
def anyLn (q : Nat → Pos) : Bool := (q 17).endLine == (q 18).line && (q 31).endLine == (q 32).line && (q 38).endLine == (q 42).line
theorem v0 (o : AnyX X) {p : Pos} : PE X (.Name "deal" p) (tVar 0) := pe_var (by rw [o.N]; rfl) (.inl o.ld)
theorem v1 (o : AnyX X) {p : Pos} : PE X (.Name "bound" p) (tVar 1) := pe_var (by rw [o.N]; rfl) (.inl o.lb)
theorem v2 (o : AnyX X) {p : Pos} : PE X (.Name "rest" p) (tVar 2) := pe_var (by rw [o.N]; rfl) (.inl o.lr)
theorem pdeal (o : AnyX X) (j : Int) {p p2 p3 : Pos} : PE X (.Subscript (.Name "deal" p) (.Constant (.int j) 0 p2) p3) (tOp (rIxL X.K) (tVar 0) (tC (.int j))) := pe_ix ix_list (v0 o) pe_int (fun _ _ => rfl)
abbrev rNe (K : KP) : R2 := fun x y H Q => ∃ F ad d e b, Ex F H ∧ Rp K F ad x d ∧ Rp K F ad y e ∧ eqD d e = some b ∧ Q (.bl (!b)) H
abbrev tD0 (K : PySem.W.Frag) : TE := tOp (rIxL K) (tVar 0) (tC (.int 0))
abbrev tD1 (K : PySem.W.Frag) : TE := tOp (rIxL K) (tVar 0) (tC (.int 1))
abbrev rNeI : R2 := rI0 fun i j => .bl (decide (i = j))
theorem pAny (o : AnyX X) (hl : anyLn q = true) : PSs X (bodyAny q)
    (tSeq (tWhile (tAnd (tTest (tOp (rNe (kp X)) (tD0 X.K) (tLst tNil))) (tB (tEqI (tOp (rIxL X.K) (tD0 X.K) (tUn (rU fun i => .int (-i)) (tC (.int 1)))) (tC (.int 0))))) (tDrop (tBM0 X.K "list" rPop (tD0 X.K))))
    (tSeq (tIfS (tTest (tOp (rNe (kp X)) (tD0 X.K) (tLst tNil)))
      (tSeq (tAsg (tCB (fun xs H Q => (∃ i, xs = [.int i] ∧ Q (.int i) H) ∨ ∃ k, xs = [.bl k] ∧ Q (.int (if k then 1 else 0)) H) (tCons (tBM0 X.K "list" rPop (tD0 X.K)) tNil)) (gName 2))
      (tSeq (tDrop (tBM X.K "list" rAppend (tD0 X.K) (tCons (tOp (rI CDiv fun i j => .int (i / j)) (tVar 2) (tVar 1)) tNil)))
        (tRet (tOp (rI (fun _ j => 0 < j) fun i j => .int (i % j)) (tCB (fun xs H Q => (∃ i, xs = [.int i] ∧ Q (.int i) H) ∨ ∃ k, xs = [.bl k] ∧ Q (.int (if k then 1 else 0)) H) (tCons (tVar 2) tNil)) (tVar 1))))) tNext)
    (tSeq (tAsg (tOp (rI (fun _ j => 0 < j) fun i j => .int (i % j)) (tCB (fun xs H Q => (∃ i, xs = [.int i] ∧ Q (.int i) H) ∨ ∃ k, xs = [.bl k] ∧ Q (.int (if k then 1 else 0)) H) (tCons (tOp (rI0 fun i j => .int (i + j)) (tOp (rI CMul fun i j => .int (i * j)) (tD1 X.K) (tC (.int 40693))) (tC (.int 71))) tNil)) (tC (.int 2147483647))) (gSub (tVar 0) (tC (.int 1)) rSetL))
      (tRet (tOp (rI (fun _ j => 0 < j) fun i j => .int (i % j)) (tCB (fun xs H Q => (∃ i, xs = [.int i] ∧ Q (.int i) H) ∨ ∃ k, xs = [.bl k] ∧ Q (.int (if k then 1 else 0)) H) (tCons (tOp (rI CDiv fun i j => .int (i / j)) (tD1 X.K) (tC (.int 64))) tNil)) (tVar 1)))))) := by
  unfold anyLn at hl
  simp only [Bool.and_eq_true] at hl
  have hN : X.N.Nodup := by rw [o.N]; exact nAny_nd
  have hne : ∀ {a b c d e : Pos}, PT X (.Compare (.Subscript (.Name "deal" a) (.Constant (.int 0) 0 b) c) [.NotEq] [.List [] d] e) (tTest (tOp (rNe (kp X)) (tD0 X.K) (tLst tNil))) := pt_cmpR (c_neR o.un) (pdeal o 0) (pe_lst pa_nil) (nomark _)
  have hpop : ∀ {a b c d e : Pos}, (d.endLine == e.line) = true → PE X (.Call (.Attribute (.Subscript (.Name "deal" a) (.Constant (.int 0) 0 b) c) "pop" d) [] [] e) (tBM0 X.K "list" rPop (tD0 X.K)) := fun h => pe_bm0 PySem.F.plainAttrs_list PySem.F.slot_list_pop PySem.F.type_list_pop mt_pop (pdeal o 0) rfl h
  have hint : ∀ {e : Expr} {t : TE} {a b : Pos}, PE X e t → notStar e = true → PE X (.Call (.Name "int" a) [e] [] b) (tCB (fun xs H Q => (∃ i, xs = [.int i] ∧ Q (.int i) H) ∨ ∃ k, xs = [.bl k] ∧ Q (.int (if k then 1 else 0)) H) (tCons t tNil)) := fun h hs =>
    pe_callTy call_int1 o.gi o.mi (biN_boot .int) (pa_cons h pa_nil (star_cons hs)) (biN_name .int).1 (biN_name .int).2 (star_cons hs) (stars_any rfl)
  refine pss_cons (ps_while o.po (PW.pt (pw_and hne (pw_and1 (pt_cmp (pc_eqI (pe_ix ix_list (pdeal o 0) (pe_un un_neg pe_int) (fun _ _ => rfl)) pe_int))))) (pss_one (ps_expr (hpop hl.1.1))))
    (pss_cons (ps_if hne (pss_cons (ps_asg (hint (hpop hl.1.2) rfl) (pg_name hN (by rw [o.N]; rfl) (.inl o.lr) (.inl (o.fn _))))
      (pss_cons (ps_expr (pe_bm PySem.F.plainAttrs_list PySem.F.slot_list_append PySem.F.type_list_append mt_append (pdeal o 0) (pa_cons (pe_op op_fdiv (v2 o) (v1 o)) pa_nil) rfl (few1 rfl) hl.2))
        (pss_one (ps_ret (pe_op op_mod (hint (v2 o) rfl) (v1 o)))))) pss_nil)
    (pss_cons (ps_asg (pe_op op_mod (hint (pe_op op_add (pe_op op_mul (pdeal o 1) pe_int) pe_int) rfl) pe_int) (pg_sub (v0 o) pe_int set_list (assign_sub rfl)))
      (pss_one (ps_ret (pe_op op_mod (hint (pe_op op_fdiv (pdeal o 1) pe_int) rfl) (v1 o))))))
end
end LL
/-! == LL21 == -/
set_option Elab.async false
set_option linter.all false
set_option maxRecDepth 100000
set_option maxHeartbeats 4000000
/-! LL, part 21: _law_any keeps its promise -/
namespace LL
open PySem PySem.Spec PyProof.Rows L2

section
variable {K : KP} {F Rf H : Hp} {ad : Ads} {w : W} {n : Nat} {p1 p2 : Addr} {cs : List Int} {b : Int} {σ : L2.St}
theorem t_d0 (s : SR F Rf ad w H) (h : ad[n]? = some (p1, p2)) (hw : w[n]? = some (.deal cs b)) (hσ : σ[0]? = some (some (.ref p1))) {Q : VK} (k : Q (.ref p2) H) : tD0 K.1 σ H Q :=
  ⟨.ref p1, hσ, p1, _, 0, .ref p2, rfl, rfl, .inl (.inl (s.deal h hw).1), rfl, k⟩
theorem t_d1 (s : SR F Rf ad w H) (h : ad[n]? = some (p1, p2)) (hw : w[n]? = some (.deal cs b)) (hσ : σ[0]? = some (some (.ref p1))) {Q : VK} (k : Q (.int b) H) : tD1 K.1 σ H Q :=
  ⟨.ref p1, hσ, p1, _, 1, .int b, rfl, rfl, .inl (.inl (s.deal h hw).1), rfl, k⟩
theorem t_ne (s : SR F Rf ad w H) (h : ad[n]? = some (p1, p2)) (hw : w[n]? = some (.deal cs b)) (hσ : σ[0]? = some (some (.ref p1))) {Q : Bool → Hp → Prop} (k : ∀ H1, SR F Rf ad w H1 → Q (!cs.isEmpty) H1) :
    tTest (tOp (rNe K) (tD0 K.1) (tLst tNil)) σ H Q := by
  refine t_d0 s h hw hσ ⟨Nat.zero_le _, fun a ha => ?_⟩
  have s1 : SR F Rf ad w (upd H a (.lst [])) := s.lay ha
  obtain ⟨_, g2, _⟩ := s1.deal h hw
  exact ⟨_, [], _, _, _, Ex.refl _, ints_rp g2, RpAll.lst upd_same .nil, eqD_nil cs, _, rfl, k _ s1⟩
theorem getlast_map (cs : List Int) : (cs.map V.int)[(cs.map V.int).length - 1]? = (cs.getLast?).map V.int := by
  rw [List.getElem?_map, List.length_map, List.getLast?_eq_getElem?]
theorem atI_neg1 (cs : List Int) : atI (cs.map V.int) (-1) = (cs.getLast?).map V.int := by
  cases h : cs.getLast? with
  | none =>
    rw [List.getLast?_eq_none_iff] at h
    subst h; rfl
  | some c =>
    have hz : cs ≠ [] := fun e => by subst e; cases h
    have e : cs = cs.dropLast ++ [c] := by
      rw [List.getLast?_eq_getLast hz] at h
      cases h
      exact (List.dropLast_concat_getLast hz).symm
    rw [e, List.map_append, List.map_singleton]
    exact atI_last _ _
theorem pop_tyV (s : SR F Rf ad w H) (h : ad[n]? = some (p1, p2)) (hw : w[n]? = some (.deal cs b)) : tyV K.1 "list" (.ref p2) H := list_tyV (s.deal h hw).2.1
/-- deal[0].pop() -/
theorem t_pop (s : SR F Rf ad w H) (h : ad[n]? = some (p1, p2)) (hw : w[n]? = some (.deal cs b)) (hσ : σ[0]? = some (some (.ref p1))) {c : Int} (hc : cs.getLast? = some c) {Q : VK} (k : ∀ H1, SR F Rf ad (w.set n (.deal cs.dropLast b)) H1 → Q (.int c) H1) :
    tBM0 K.1 "list" rPop (tD0 K.1) σ H Q := by
  obtain ⟨g1, g2, g3⟩ := s.deal h hw
  refine t_d0 s h hw hσ ⟨list_tyV g2, p2, _, .int c, rfl, rfl, g2, by rw [getlast_map, hc]; rfl, ?_⟩
  have := s.setList (cs' := cs.dropLast) h hw
  rw [List.map_dropLast] at this
  exact k _ this
theorem set_get {c c' : Cell} (hw : w[n]? = some c) : (w.set n c')[n]? = some c' := by
  rw [List.getElem?_set_self (List.getElem?_eq_some_iff.mp hw).1]
theorem set_set {c c' : Cell} : (w.set n c).set n c' = w.set n c' := List.set_set ..
end
/-- stripping, by the last one -/
theorem strip_last {cs : List Int} {c : Int} (h : cs.getLast? = some c) : stripZ cs = if c = 0 then stripZ cs.dropLast else cs := by
  have hz : cs ≠ [] := fun e => by subst e; cases h
  have e : cs = cs.dropLast ++ [c] := by
    rw [List.getLast?_eq_getLast hz] at h
    cases h
    exact (List.dropLast_concat_getLast hz).symm
  split
  · rename_i q
    subst q
    conv => lhs; rw [e]
    exact stripZ_zero _
  · rename_i q
    conv => lhs; rw [e]
    rw [stripZ_stop _ _ q]; exact e.symm
theorem strip_end {cs : List Int} (h : cs = [] ∨ ∃ c, cs.getLast? = some c ∧ c ≠ 0) : stripZ cs = cs := by
  rcases h with rfl | ⟨c, h, hc⟩
  · rfl
  · rw [strip_last h, if_neg hc]
theorem any_ok {P : Program} {wd : World} {K : PySem.W.Frag} {mg : Str → Option Value} {base : Heap} {cad : Nat → Addr} {a : Addr} {fd : FuncData} {st : Stmt} {k : Nat} {q : Nat → Pos} {x qual : Str} (F : Fun K x qual st a fd) (hb : defBody st = bodyAny q) (hl : anyLn q = true)
    (S : FnScope nAny ["deal", "bound"] (defScope st)) (ld : (defScope st).names.lookup ("deal" : Str) = some NameKind.local) (lb : (defScope st).names.lookup ("bound" : Str) = some NameKind.local) (lr : (defScope st).names.lookup ("rest" : Str) = some NameKind.local)
    (gi : (defScope st).names.lookup ("int" : Str) = some NameKind.globalImplicit) (mi : mg "int" = none) : FnOk P wd K mg base (L2.CX P wd) (k + 1) a fd ["deal", "bound"] (spOf (K, wd.params) cad false anyP) := by
  have shape : ∀ {ds : List D} {w : W} {Rf F : Hp} {ad : Ads} {E : XK} {Q : VK}, PostE (K, wd.params) cad Rf E false F ad (anyP ds w) Q → ∃ n bound cs b, ds = [.ob n, .int bound] ∧ w[n]? = some (.deal cs b) ∧ (0 < bound ∧ bound < 1073741824 ∧ cs.length ≤ 1000) ∧
      anyP ds w = .ok (.int (anyC cs b bound).1, w.set n (anyC cs b bound).2) := fun {ds w Rf F ad E Q} p => by
    unfold anyP at p ⊢
    split at p
    · rename_i n bound
      split at p
      · rename_i cs b e
        split at p
        · rename_i hc
          exact ⟨n, bound, cs, b, rfl, e, hc, by simp only [e, if_pos hc]⟩
        · exact p.elim
      · exact p.elim
    · exact p.elim
  refine F.okX S (fun vs H Q E h => ?_) (fun cdv A outer s H vs Q E hr h => ?_)
  · obtain ⟨F, Rf, ad, ds, w', s, r, p⟩ := h
    obtain ⟨n, bound, cs, b, rfl, _⟩ := shape p
    rw [r.1]; rfl
  · obtain ⟨F', Rf, ad, ds, w, sr, r, p⟩ := h
    obtain ⟨n, bound, cs, b, rfl, hw, ⟨hb1, hb2, hb3⟩, ep⟩ := shape p
    rw [ep] at p
    clear ep
    obtain ⟨v1, v2, rfl, r1, r2⟩ := r.two
    obtain rfl := r2.int_inv
    cases r1
    rename_i pr hn
    obtain ⟨p1, p2⟩ := pr
    have o : AnyX (cxOf (L2.CX P wd) P wd K mg base nAny qual (defScope st) a cdv A outer s H E) :=
      ⟨rfl, rfl, hr.units, fun _ => rfl, ld, lb, lr, gi, mi, passes_of rfl⟩
    have hp := pAny (q := q) o hl
    rw [← hb] at hp
    refine ⟨_, hp, ?_⟩
    -- the end
    have fin : ∀ (v : Int) (c : Cell) (w' : W) (H' : Hp), (v, c) = anyC cs b bound → SR F' Rf ad (w.set n c) H' → Q (.int v) H' := fun v c w' H' e s' => by
      have e1 : v = (anyC cs b bound).1 := congrArg Prod.fst e
      have e2 : c = (anyC cs b bound).2 := congrArg Prod.snd e
      subst e1 e2
      exact p (.int _) H' F' ad (Ex.refl F') (Le.refl ad) s' (Res.flat (fun _ h => nomatch h) (.int _))
    clear p
    have h0 : L2.start nAny [V.ref p1, V.int bound] = [some (V.ref p1), some (V.int bound), none] := rfl
    rw [show L2.start nAny [V.ref (p1, p2).1, V.int bound] = [some (V.ref p1), some (V.int bound), none] from rfl]
    -- the loop
    refine ⟨fun m σ H => ∃ cs', m = cs'.length ∧ σ = [some (V.ref p1), some (V.int bound), none] ∧ SR F' Rf ad (w.set n (.deal cs' b)) H ∧ stripZ cs' = stripZ cs ∧ cs'.length ≤ cs.length, ⟨cs.length, cs, rfl, rfl, ?_, rfl, Nat.le_refl _⟩, ?_⟩
    · have : w.set n (.deal cs b) = w := by
        apply List.ext_getElem?
        intro i
        by_cases hi : n = i
        · subst hi; rw [set_get hw]; exact hw.symm
        · rw [List.getElem?_set_ne hi]
      rw [this]; exact sr
    · rintro m σ H1 ⟨cs', rfl, rfl, s1, hz, hlen⟩
      have hw1 := set_get (c' := .deal cs' b) hw
      -- behind the loop
      have behind : ∀ H2, SR F' Rf ad (w.set n (.deal cs' b)) H2 → stripZ cs' = cs' → (tSeq (tIfS (tTest (tOp (rNe (K, wd.params)) (tD0 K) (tLst tNil)))
          (tSeq (tAsg (tCB (fun xs H Q => (∃ i, xs = [.int i] ∧ Q (.int i) H) ∨ ∃ k, xs = [.bl k] ∧ Q (.int (if k then 1 else 0)) H) (tCons (tBM0 K "list" rPop (tD0 K)) tNil)) (gName 2))
          (tSeq (tDrop (tBM K "list" rAppend (tD0 K) (tCons (tOp (rI CDiv fun i j => .int (i / j)) (tVar 2) (tVar 1)) tNil)))
            (tRet (tOp (rI (fun _ j => 0 < j) fun i j => .int (i % j)) (tCB (fun xs H Q => (∃ i, xs = [.int i] ∧ Q (.int i) H) ∨ ∃ k, xs = [.bl k] ∧ Q (.int (if k then 1 else 0)) H) (tCons (tVar 2) tNil)) (tVar 1))))) tNext)
        (tSeq (tAsg (tOp (rI (fun _ j => 0 < j) fun i j => .int (i % j)) (tCB (fun xs H Q => (∃ i, xs = [.int i] ∧ Q (.int i) H) ∨ ∃ k, xs = [.bl k] ∧ Q (.int (if k then 1 else 0)) H) (tCons (tOp (rI0 fun i j => .int (i + j)) (tOp (rI CMul fun i j => .int (i * j)) (tD1 K) (tC (.int 40693))) (tC (.int 71))) tNil)) (tC (.int 2147483647))) (gSub (tVar 0) (tC (.int 1)) rSetL))
          (tRet (tOp (rI (fun _ j => 0 < j) fun i j => .int (i % j)) (tCB (fun xs H Q => (∃ i, xs = [.int i] ∧ Q (.int i) H) ∨ ∃ k, xs = [.bl k] ∧ Q (.int (if k then 1 else 0)) H) (tCons (tOp (rI CDiv fun i j => .int (i / j)) (tD1 K) (tC (.int 64))) tNil)) (tVar 1)))))
          { nx := fun _ H' => Q .non H', rt := Q } [some (V.ref p1), some (V.int bound), none] H2 := fun H2 s2 hs => by
        refine t_ne (K := (K, wd.params)) (σ := [some (V.ref p1), some (V.int bound), none]) s2 hn hw1 rfl fun H3 s3 => ?_
        have hzc : stripZ cs = cs' := by rw [← hz, hs]
        cases hlast : cs'.getLast? with
        | none =>
          have : cs' = [] := by rwa [List.getLast?_eq_none_iff] at hlast
          subst this
          refine ite_ff ?_
          -- deal[1] = ..
          refine t_d1 (K := (K, wd.params)) s3 hn hw1 rfl ⟨b, 40693, rfl, rfl, .inr ⟨by decide, by decide⟩, _, 71, rfl, rfl, .inl ⟨_, rfl, _, 2147483647, rfl, rfl, (by decide : (0 : Int) < 2147483647), ?_⟩⟩
          obtain ⟨g1, g2, g3⟩ := s3.deal hn hw1
          refine ⟨.ref p1, rfl, p1, _, 1, 1, rfl, rfl, g1, rfl, ?_⟩
          have s4 := s3.setNum (b' := (b * 40693 + 71) % 2147483647) hn hw1
          have hw2 := set_get (c' := .deal [] ((b * 40693 + 71) % 2147483647)) hw1
          refine t_d1 (K := (K, wd.params)) s4 hn hw2 rfl ⟨_, 64, rfl, rfl, ⟨by decide, by decide⟩, .inl ⟨_, rfl, _, rfl, _, bound, rfl, rfl, hb1, ?_⟩⟩
          refine fin _ _ w _ ?_ (by rw [set_set] at s4; exact s4)
          unfold anyC
          rw [hzc]; rfl
        | some c =>
          have hne : cs'.isEmpty = false := by
            cases cs' with
            | nil => cases hlast
            | cons _ _ => rfl
          rw [hne]
          refine ite_tt ?_
          refine t_pop (K := (K, wd.params)) s3 hn hw1 rfl hlast fun H4 s4 => .inl ⟨c, rfl, ?_⟩
          have hw2 := set_get (c' := .deal cs'.dropLast b) hw1
          -- deal[0].append(rest // bound)
          obtain ⟨g1, g2, g3⟩ := s4.deal hn hw2
          refine t_d0 (K := (K, wd.params)) s4 hn hw2 rfl ⟨list_tyV g2, _, rfl, _, rfl, c, bound, rfl, rfl, ⟨hb1, hb2⟩, p2, _, _, rfl, rfl, g2, ?_, ?_⟩
          · rw [List.length_map, List.length_dropLast, sizeLine_eq]; omega
          · have s5 := s4.setList (cs' := cs'.dropLast ++ [c / bound]) hn hw2
            rw [List.map_append, List.map_singleton] at s5
            refine ⟨.int c, rfl, .inl ⟨c, rfl, .int bound, rfl, c, bound, rfl, rfl, hb1, ?_⟩⟩
            refine fin _ _ w _ ?_ (by rw [set_set, set_set] at s5; exact s5)
            unfold anyC
            rw [hzc, hlast]
      refine t_ne (K := (K, wd.params)) s1 hn hw1 rfl fun H2 s2 => ?_
      cases hlast : cs'.getLast? with
      | none =>
        have : cs' = [] := by rwa [List.getLast?_eq_none_iff] at hlast
        subst this
        exact ite_ff (ite_ff (behind H2 s2 rfl))
      | some c =>
        have hne : cs'.isEmpty = false := by
          cases cs' with
          | nil => cases hlast
          | cons _ _ => rfl
        rw [hne]
        refine ite_tt ?_
        -- deal[0][-1] == 0
        refine t_d0 (K := (K, wd.params)) s2 hn hw1 rfl ⟨1, rfl, p2, _, -1, .int c, rfl, rfl, .inl (.inl (s2.deal hn hw1).2.1), by rw [atI_neg1, hlast]; rfl, c, 0, rfl, rfl, _, rfl, ?_⟩
        by_cases hc : c = 0
        · change (if decide (c = (0 : Int)) = true then _ else _)
          rw [show decide (c = 0) = true from decide_eq_true hc]
          refine ite_tt ⟨fun σ' H' => ∃ cs'', cs''.length + 1 = cs'.length ∧ σ' = [some (V.ref p1), some (V.int bound), none] ∧ SR F' Rf ad (w.set n (.deal cs'' b)) H' ∧ stripZ cs'' = stripZ cs ∧ cs''.length ≤ cs.length, fun σ' H' ⟨cs'', e1, e2, e3, e4, e5⟩ => ⟨cs''.length, by omega, cs'', rfl, e2, e3, e4, e5⟩, ?_⟩
          refine t_pop (K := (K, wd.params)) s2 hn hw1 rfl hlast fun H3 s3 => ⟨cs'.dropLast, ?_, rfl, by rw [set_set] at s3; exact s3, ?_, by rw [List.length_dropLast]; omega⟩
          · rw [List.length_dropLast]
            have : 0 < cs'.length := by
              cases cs' with
              | nil => cases hlast
              | cons _ _ => exact Nat.succ_pos _
            omega
          · rw [← hz, strip_last hlast, if_pos hc]
        · change (if decide (c = (0 : Int)) = true then _ else _)
          rw [show decide (c = 0) = false from decide_eq_false hc]
          exact ite_ff (behind H2 s2 (strip_end (.inr ⟨c, hlast, hc⟩)))
end LL
/-! == LL22 == -/
set_option Elab.async false
set_option linter.all false
set_option maxRecDepth 100000
set_option maxHeartbeats 4000000
/-! LL, part 22: all defs of a law; the law -/
namespace LL
open PySem PySem.Spec PyProof.Rows L2

/-- an entry of the law's table: a def, or _law_any (its text's places) -/
inductive En where
  | df (f : Df)
  | any (st : Stmt) (q : List Pos)
def En.st : En → Stmt
  | .df f => f.st
  | .any st _ => st
def En.i : En → FnI
  | .df f => f.i
  | .any _ _ => ⟨"_law_any", ["deal", "bound"], false, false⟩
/-- what runs -/
inductive Rn where
  | df (d : FnD)
  | any
def En.r : En → Rn
  | .df f => .df f.d
  | .any _ _ => .any
def run (tb : List (Nat × Rn)) (m : Nat) : Nat → Fns
  | 0 => fun _ _ _ => .bad
  | n + 1 => fun f args w => match lkN tb f with
    | some (.df d) => runB (run tb m n) m d args w
    | some .any => anyP args w
    | none => .bad
def locK (sc : Scope) (x : Str) : Bool := match sc.names.lookup x with | some .local => true | _ => false
structure Law where
  es : List (Nat × En)
  globs : List (Str × D)
  free : List Str
def Law.tb (L : Law) : List (Nat × Rn) := L.es.map fun p => (p.1, p.2.r)
def Law.tab (L : Law) : Tab := ⟨L.es.map fun p => (p.1, p.2.i), L.globs, L.free⟩
def posAt (q : List Pos) (i : Nat) : Pos := q.getD i ⟨0, 0, 0, 0⟩
/-- the check of an entry -/
def En.ok (T : Tab) : En → Prop
  | .df f => f.ok T = true
  | .any st q => defBody st = bodyAny (posAt q) ∧ anyLn (posAt q) = true ∧ FnScope nAny ["deal", "bound"] (defScope st) ∧ (locK (defScope st) "deal" && locK (defScope st) "bound" && locK (defScope st) "rest" && glb (defScope st) "int" && T.free.any (eqN "int")) = true
/-- what the written part says of a def -/
structure FnF (K : PySem.W.Frag) (mg : Str → Option Value) (i : FnI) (st : Stmt) : Prop where
  ex : ∃ a fd, Fun K i.x i.x st a fd ∧ mg i.x = some (.ref a) ∧ Binds K fd i.ps [] ∧ (i.kw = true → ∀ (s : Shared) (ws : List Value), ws.length = i.ps.length → BindsTo s fd ⟨[], i.ps.zip ws⟩ (i.ps.zip ws))
theorem fnF_mk {K : PySem.W.Frag} {h : Heap} {mg : Str → Option Value} (X : K.In h) (G : h.Ns mainGlobals mg) {i : FnI} {st : Stmt} {f : Addr} {oc : Value} {od an : Option Addr} {osl : Array (Option Value)} {kV doc pm cdv ct : Value}
    (hb : ∀ (kV doc pm : Value) (an : Option Addr) (cdv ct : Value) (us : List Value), us.length = i.ps.length → bindArgs (PySem.W.fnOf i.x i.x (defArgs st) (defBody st) (defScope st) .none kV doc pm an cdv ct) ⟨us, []⟩ = pure (i.ps.zip us))
    (hk : i.kw = true → ∀ (kV doc pm : Value) (an : Option Addr) (cdv ct : Value) (us : List Value), us.length = i.ps.length → bindArgs (PySem.W.fnOf i.x i.x (defArgs st) (defBody st) (defScope st) .none kV doc pm an cdv ct) ⟨[], i.ps.zip us⟩ = pure (i.ps.zip us))
    (a : PySem.W.nsIn K mainGlobals i.x = some (some (.ref f))) (l : K.lookup f = some ⟨oc, od, .func (PySem.W.fnOf i.x i.x (defArgs st) (defBody st) (defScope st) .none kV doc pm an cdv ct), osl⟩) (c : PySem.W.codeIn K cdv i.x = true) (k : PySem.W.keepIn K (.ref f) = true) : FnF K mg i st :=
  ⟨_, _, fun_mk l c k, PySem.W.mg_of X G a, (fun_mk l c k).binds hb, fun h s ws hl => .of_eq (hk h _ _ _ _ _ _ ws hl)⟩
/-- what is told of a module's constant -/
structure GlF (K : PySem.W.Frag) (pm : PySem.Params) (mg : Str → Option Value) (x : Str) (d : D) : Prop where
  ex : ∃ u v, mg x = some u ∧ RelV v u ∧ ∀ F ad, Rp (K, pm) F ad v d
theorem locK_eq {sc : Scope} {x : Str} (h : locK sc x = true) : sc.names.lookup x = some .local := by
  unfold locK at h
  split at h
  · assumption
  · cases h
theorem glb_eq {sc : Scope} {x : Str} (h : glb sc x = true) : sc.names.lookup x = some .globalImplicit := by
  unfold glb at h
  split at h
  · assumption
  · cases h
theorem all_ok {L : Law} {P : Program} {w : World} {K : PySem.W.Frag} {mg : Str → Option Value} {base : Heap} {cad : Nat → Addr} {m : Nat} (hok : ∀ e ∈ L.es, e.2.ok L.tab) (hfn : ∀ e ∈ L.es, FnF K mg e.2.i e.2.st) (hfree : ∀ x ∈ L.free, mg x = none)
    (hgl : ∀ p ∈ L.globs, GlF K w.params mg p.1 p.2) : ∀ (n f : Nat) (e : En), lkN L.es f = some e → ∀ (a : Addr) (fd : FuncData), Fun K e.i.x e.i.x e.st a fd →
      FnOk P w K mg base (L2.CX P w) n a fd e.i.ps (spOf (K, w.params) cad e.i.fr (run (L.tb) m n f))
  | 0, f, e, he, a, fd, hF => ⟨fun vs H Q E ⟨F, Rf, ad, ds, w', _, _, p⟩ => p.elim, fun A outer s H args us vs Q E _ _ _ _ ⟨F, Rf, ad, ds, w', _, _, p⟩ => p.elim⟩
  | n + 1, f, e, he, a, fd, hF => by
    have hoe := hok _ (lkN_mem he)
    have hr : lkN L.tb f = some e.r := by rw [Law.tb, lkN_map, he]; rfl
    cases e with
    | df f' =>
      have e1 : run (L.tb) m (n + 1) f = runB (run (L.tb) m n) m f'.d := by
        funext args w
        show (match lkN L.tb f with | some (.df d) => runB (run (L.tb) m n) m d args w | some .any => anyP args w | none => .bad) = _
        rw [hr]; rfl
      rw [e1]
      have hd : f'.ok L.tab = true := hoe
      refine fn_sound hd hF fun X hP hw hK hmg hbase hcalm hroom hN => ?_
      subst hP hw hK hmg hbase
      refine ⟨hcalm, by rw [hN]; exact (fnScope_of hd).nd, hroom.units, hN, hfree, fun p hp => (hgl p hp).ex, fun g i hg => ?_⟩
      have hg : lkN (L.es.map fun p => (p.1, p.2.i)) g = some i := hg
      rw [lkN_map] at hg
      cases eg : lkN L.es g with
      | none => rw [eg] at hg; cases hg
      | some e2 =>
        rw [eg] at hg
        cases hg
        obtain ⟨a2, fd2, q1, q2, q3⟩ := (hfn _ (lkN_mem eg)).ex
        exact ⟨n, a2, fd2, all_ok (P := X.prog) (w := X.w) (base := X.base) (cad := cad) (m := m) hok hfn hfree hgl n g e2 eg a2 fd2 q1, hroom, q2, q1.kp, q3⟩
    | any st q =>
      have e1 : run (L.tb) m (n + 1) f = anyP := by
        funext args w
        show (match lkN L.tb f with | some (.df d) => runB (run (L.tb) m n) m d args w | some .any => anyP args w | none => .bad) = _
        rw [hr]; rfl
      rw [e1]
      obtain ⟨h1, h2, h3, h4⟩ := hoe
      simp only [Bool.and_eq_true] at h4
      obtain ⟨⟨⟨⟨k1, k2⟩, k3⟩, k4⟩, k5⟩ := h4
      obtain ⟨y, hy, ey⟩ := any_elim k5
      exact any_ok hF h1 h2 h3 (locK_eq k1) (locK_eq k2) (locK_eq k3) (glb_eq k4) (by rw [eqN_eq ey]; exact hfree y hy)

/-! ### the law -/
/-- the promise of the law's own def: what it says, for some bound of the loops -/
def spLaw (K : KP) (tb : List (Nat × Rn)) (k lawI : Nat) : Sp := fun vs H Q E => ∃ m, spOf K (fun _ => 0) false (run tb m k lawI) vs H Q E
theorem law_ok {L : Law} {P : Program} {w : World} {K : PySem.W.Frag} {mg : Str → Option Value} {base : Heap} (hok : ∀ e ∈ L.es, e.2.ok L.tab) (hfn : ∀ e ∈ L.es, FnF K mg e.2.i e.2.st) (hfree : ∀ x ∈ L.free, mg x = none)
    (hgl : ∀ p ∈ L.globs, GlF K w.params mg p.1 p.2) {k lawI : Nat} {e : En} (he : lkN L.es lawI = some e) (hfr : e.i.fr = false) {a : Addr} {fd : FuncData} (hF : Fun K e.i.x e.i.x e.st a fd) : FnOk P w K mg base (L2.CX P w) k a fd e.i.ps (spLaw (K, w.params) (L.tb) k lawI) := by
  have each : ∀ m, FnOk P w K mg base (L2.CX P w) k a fd e.i.ps (spOf (K, w.params) (fun _ => 0) false (run (L.tb) m k lawI)) := fun m => by
    have := all_ok (P := P) (w := w) (base := base) (cad := fun _ => 0) (m := m) hok hfn hfree hgl k lawI e he a fd hF
    rw [hfr] at this
    exact this
  exact ⟨fun vs H Q E ⟨m, h⟩ => (each m).len vs H Q E h, fun A outer s H args us vs Q E h1 h2 h3 h4 ⟨m, h⟩ => (each m).run A outer s H args us vs Q E h1 h2 h3 h4 h⟩
/-- what is left to show: plain Lean -/
theorem law_sp {K : KP} {tb : List (Nat × Rn)} {k lawI : Nat} {H : Hp} {a : Addr} {ns : List Int} (hS : SqL K.1 H a (ns.map V.int)) (h : ∃ m w', run tb m k lawI [.scr ns] [] = .ok (.bl true, w')) : spLaw K tb k lawI [.ref a] H (fun v _ => v = .bl true) fun _ _ _ => False := by
  obtain ⟨m, w', h⟩ := h
  refine ⟨m, H, fun _ => none, [], [.scr ns], [], ⟨Ex.refl H, fun _ _ e => (by cases e), fun _ _ e => (by cases e), ⟨rfl, fun n p c h => (by simp at h), fun n p h => (by simp at h), fun n m p q h => (by simp at h)⟩⟩, .cons (.scr hS) .nil, ?_⟩
  rw [h]
  exact fun v H' F' ad' _ _ _ r => r.rp.bl_inv
theorem cx_none {P : Program} {w : World} {H : Hp} {s : Shared} {e : Value} {s' : Shared} (h : L2.CX P w [] H s (fun _ _ _ => False) e s') : False := by
  obtain ⟨_, _, _, _, _, _, _, _, _, _, _, _, z⟩ := h
  exact z
end LL
/-! == LL23 == -/
set_option Elab.async false
set_option linter.all false
set_option maxRecDepth 100000
set_option maxHeartbeats 4000000
/-! LL, part 23: the head's facts -/
namespace LL
open PySem PySem.Spec PyProof.Rows L2

/-- a law over a head by facts: what may be let out, by the world; the numbers' sizes -/
theorem walk_ofEB {l : PySem.W.OpenLaw} {n k : Nat} {q : Program} {loose : List Str} {XP : (Str → Option Value) → Heap → Prop} {YP : World → Heap → Prop} {d : DefRec} {CX : World → CXT} {x : Str}
    (hn : l.most = some n) (hn2 : n ≤ sizeLine) (hdf : d.params.defaults = []) (hr : Room k callerA)
    (F : ∀ (w : World) (mg : Str → Option Value) (fa : Addr) (h : Heap), YP w h → h.Ns mainGlobals mg → mg d.name = some (.ref fa) →
      ∃ (K : PySem.W.Frag) (fd : FuncData) (sp : Sp), K.In h ∧ (∀ (s : Shared) (u : Value), BindsTo s fd ⟨[u], []⟩ [(x, u)]) ∧
        (∀ (H : Hp) (a : Addr) (ns : List Int), ns.length ≤ n → (∀ z ∈ ns, Builtin.Int.intBits z ≤ 1048576) → L2.Only H → SqL K H a (ns.map V.int) → sp [.ref a] H (fun v _ => v = .bl true) fun _ _ _ => False) ∧
        ∀ base : Heap, K.In base → base.Ns mainGlobals mg → FnOk l.prog w K mg base (CX w) k fa fd [x] sp)
    (hCX : ∀ (w : World) (H : Hp) (s : Shared) (e : Value) (s' : Shared), CX w [] H s (fun _ _ _ => False) e s' → False) :
    PySem.W.WalkO q loose XP YP l.row.toRowW d [] (fun f vs => PySem.call f vs) := by
  refine Att.attach_callB hn hdf fun w s₀ s₁ mg mb fa o pm cd doc a vs ns G Y ho hd hcd hmg hobj hints hlen hbits hg => ?_
  obtain ⟨K, fd, sp, KX, hb, hsp, hF⟩ := F w mg fa _ Y G.T.g hmg
  exact law_call KX G.T.g G.T.b G.T.builtins G.T.nolimit hg hobj hints (Nat.le_trans hlen hn2) hr hF hb (fun H hO hS => hsp H a ns hlen hbits hO hS) fun H e s' => hCX w H s₁ e s'
/-- a def as a datum of the head -/
def defD (x : Str) (st : Stmt) : He.DefD := ⟨(x, none), x, x, defArgs st, defBody st, defScope st, [], []⟩
theorem fun_of {K : PySem.W.Frag} {x : Str} {st : Stmt} {f : Addr} {fd : FuncData} (F : FunD K x x (defArgs st) (defBody st) (defScope st) [] [] f fd) : ∃ (oc : Value) (od : Option Addr) (kV doc pm : Value) (an : Option Addr) (cdv ct : Value) (osl : Array (Option Value)),
    fd = PySem.W.fnOf x x (defArgs st) (defBody st) (defScope st) .none kV doc pm an cdv ct ∧ K.lookup f = some ⟨oc, od, .func fd, osl⟩ ∧ PySem.W.codeIn K cdv x = true ∧ PySem.W.keepIn K (.ref f) = true := by
  obtain ⟨oc, od, dV, kV, doc, pm, an, cdv, ct, osl, e, lk, hcd, hD, hK⟩ := F.ex
  rcases hD with ⟨_, rfl⟩ | ⟨h, _⟩
  · exact ⟨oc, od, kV, doc, pm, an, cdv, ct, osl, e, lk, hcd, F.kp⟩
  · exact absurd rfl h
/-- how plain arguments are bound -/
abbrev BndOk (i : FnI) (st : Stmt) : Prop := ∀ (kV doc pm : Value) (an : Option Addr) (cdv ct : Value) (us : List Value), us.length = i.ps.length → bindArgs (PySem.W.fnOf i.x i.x (defArgs st) (defBody st) (defScope st) .none kV doc pm an cdv ct) ⟨us, []⟩ = pure (i.ps.zip us)
abbrev BndKw (i : FnI) (st : Stmt) : Prop := i.kw = true → ∀ (kV doc pm : Value) (an : Option Addr) (cdv ct : Value) (us : List Value), us.length = i.ps.length → bindArgs (PySem.W.fnOf i.x i.x (defArgs st) (defBody st) (defScope st) .none kV doc pm an cdv ct) ⟨[], i.ps.zip us⟩ = pure (i.ps.zip us)
theorem fnF_of {K : PySem.W.Frag} {h : Heap} {mg : Str → Option Value} {fa : List He.Fa} {fn : List He.DefD} (X : K.In h) (G : h.Ns mainGlobals mg) (c : He.SaysD fa fn K) {i : FnI} {st : Stmt} (hb : BndOk i st) (hk : BndKw i st) (j1 : Nat) (h1 : fa[j1]? = some (He.Fa.glo i.x)) (j2 : Nat) (h2 : fn[j2]? = some (defD i.x st)) : FnF K mg i st := by
  obtain ⟨fd, F⟩ := c.def_ j2 h2
  have F : FunD K i.x i.x (defArgs st) (defBody st) (defScope st) [] [] (He.ga K i.x) fd := F
  obtain ⟨oc, od, kV, doc, pm, an, cdv, ct, osl, rfl, lk, hcd, kp⟩ := fun_of F
  have F2 := fun_mk (st := st) lk hcd kp
  exact ⟨_, _, F2, He.glo_ok X G (c.fact j1 h1), F2.binds hb, fun h s ws hl => .of_eq (hk h _ _ _ _ _ _ ws hl)⟩
/-! ### constants -/
def flatDv : D → Option He.Dv
  | .non => some .non
  | .bl b => some (.bl b)
  | .int i => some (.int i)
  | .str x => some (.str x)
  | _ => none
def flatDvs : List D → Option (List He.Dv)
  | [] => some []
  | d :: ds => match flatDv d, flatDvs ds with
    | some v, some vs => some (v :: vs)
    | _, _ => none
theorem flatDv_rp {KP' : KP} {K : PySem.W.Frag} {F : Hp} {ad : Ads} {d : D} {v : He.Dv} (h : flatDv d = some v) : Rp KP' F ad (v.v K) d := by
  cases d <;> cases h <;> first | exact .non | exact .bl _ | exact .int _ | exact .str _
theorem flatDvs_rp {KP' : KP} {K : PySem.W.Frag} {F : Hp} {ad : Ads} : ∀ {ds : List D} {vs : List He.Dv}, flatDvs ds = some vs → RpAll KP' F ad (vs.map (He.Dv.v K)) ds
  | [], vs, h => by cases h; exact .nil
  | d :: ds, vs, h => by
    unfold flatDvs at h
    split at h
    · rename_i e1 e2
      cases h
      exact .cons (flatDv_rp e1) (flatDvs_rp e2)
    · cases h
/-- the values of a dict of the top, in order -/
def dctB (K : PySem.W.Frag) (a : Addr) (vs : List He.Dv) : Bool := match K.lookup a with
  | some ⟨_, _, .dict es _, _⟩ => He.relAll (vs.map (He.Dv.v K)) (es.toList.map (·.val))
  | _ => false
theorem gl_int {K : PySem.W.Frag} {h : Heap} {mg : Str → Option Value} {pm : PySem.Params} {fa : List He.Fa} {fn : List He.DefD} (X : K.In h) (G : h.Ns mainGlobals mg) (c : He.SaysD fa fn K) {x : Str} {i : Int} (j1 : Nat) (hf : fa[j1]? = some (He.Fa.int x i)) : GlF K pm mg x (.int i) := by
  obtain ⟨t, e⟩ := He.int_ok X G (c.fact j1 hf)
  exact ⟨_, .int i, e, ⟨t, rfl⟩, fun F ad => .int i⟩
theorem gl_str {K : PySem.W.Frag} {h : Heap} {mg : Str → Option Value} {pm : PySem.Params} {fa : List He.Fa} {fn : List He.DefD} (X : K.In h) (G : h.Ns mainGlobals mg) (c : He.SaysD fa fn K) {x z : Str} (j1 : Nat) (hf : fa[j1]? = some (He.Fa.str x z)) : GlF K pm mg x (.str z) := by
  obtain ⟨t, e⟩ := He.str_ok X G (c.fact j1 hf)
  exact ⟨_, .str z, e, ⟨t, rfl⟩, fun F ad => .str z⟩
theorem gl_tup {K : PySem.W.Frag} {h : Heap} {mg : Str → Option Value} {pm : PySem.Params} {fa : List He.Fa} {fn : List He.DefD} (X : K.In h) (G : h.Ns mainGlobals mg) (c : He.SaysD fa fn K) {x : Str} {ds : List D} {vs : List He.Dv} (j1 : Nat) (hf : fa[j1]? = some (He.Fa.glo x)) (hv : flatDvs ds = some vs) (ht : He.tupB K x vs = true) : GlF K pm mg x (.tup ds) :=
  ⟨_, .ref (He.ga K x), He.glo_ok X G (c.fact j1 hf), rfl, fun F ad => RpAll.tup (He.tupB_ok ht F) (flatDvs_rp hv)⟩
theorem keyOf_at {P : PySem.Params} : ∀ {l : List DictEntry} {ks : List Str}, l.map He.keyOf = He.keysIn P ks → l.length = ks.length ∧ ∀ (i : Nat) (e : DictEntry), l[i]? = some e → ∃ x t, e.key = .str x t ∧ ks[i]? = some x
  | [], [], _ => ⟨rfl, fun i e h => by simp at h⟩
  | [], _ :: _, h => by cases h
  | _ :: _, [], h => by cases h
  | e :: l, k :: ks, h => by
    have h1 : He.keyOf e :: l.map He.keyOf = some (k, PyData.keyHash P k) :: He.keysIn P ks := h
    injection h1 with h2 h3
    obtain ⟨a, b⟩ := keyOf_at h3
    refine ⟨by simp [a], fun i e' he => ?_⟩
    cases i with
    | zero =>
      simp at he
      subst he
      unfold He.keyOf at h2
      split at h2
      · rename_i x t q
        obtain ⟨h5, h6⟩ := Prod.mk.inj (Option.some.inj h2)
        exact ⟨x, t, q, by rw [h5]; rfl⟩
      · cases h2
    | succ i => exact b i e' (by simpa using he)
theorem gl_dct {K : PySem.W.Frag} {w : World} {h : Heap} {mg : Str → Option Value} {fa : List He.Fa} {fn : List He.DefD} {ts : List He.Tab} (X : K.In h) (G : h.Ns mainGlobals mg) (c : He.SaysT fa fn ts w K) {x : Str} {ks : List Str} {ds : List D} {vs : List He.Dv} (j1 : Nat) (hf : fa[j1]? = some (He.Fa.glo x)) (j : Nat) (ht : ts[j]? = some ((fun K => He.ga K x), ks))
    (hv : flatDvs ds = some vs) (hd : dctB K (He.ga K x) vs = true) : GlF K w.params mg x (.dct ks ds) := by
  have e : (ts.map fun t => He.dicW K (t.1 K))[j]? = (ts.map fun t => some (He.keysIn w.params t.2))[j]? := by
    have : ts.map (fun t => He.dicW K (t.1 K)) = ts.map fun t => some (He.keysIn w.params t.2) := congrArg (fun z : He.AlT => z.2) c
    rw [this]
  rw [List.getElem?_map, List.getElem?_map, ht] at e
  have e : He.dicW K (He.ga K x) = some (He.keysIn w.params ks) := Option.some.inj e
  obtain ⟨es0, n0, kd⟩ := He.dicW_ok e
  have hkeys : es0.toList.map He.keyOf = He.keysIn w.params ks := by
    unfold He.dicW at e
    rw [kd.at_] at e
    have e2 : (match (decide (("dict" : String) = "dict") && ((#[] : Array (Option Value)).isEmpty && !(He.ga K x == sysModules))) with | true => some (es0.toList.map He.keyOf) | false => none) = some (He.keysIn w.params ks) := e
    rw [kd.low] at e2
    simpa using e2
  obtain ⟨hl, hks⟩ := keyOf_at hkeys
  have hvals : Vals (vs.map (He.Dv.v K)) (es0.toList.map (·.val)) := by
    unfold dctB at hd
    rw [kd.at_] at hd
    exact He.relAll_ok hd
  have hr := fun (F : Hp) (ad : Ads) => flatDvs_rp (KP' := (K, w.params)) (K := K) (F := F) (ad := ad) hv
  refine ⟨_, .ref (He.ga K x), He.glo_ok X G (c.d.fact j1 hf), rfl, fun F ad => Rp.kd (ks := ks) (us := es0.toList.map (·.val)) ⟨⟨es0, n0, kd.at_, kd.lit, rfl, hl, hks⟩, kd.low⟩ hvals (hr F ad).1 (hr F ad).2⟩
theorem free_of' {K : PySem.W.Frag} {h : Heap} {mg : Str → Option Value} {fa : List He.Fa} {fn : List He.DefD} (X : K.In h) (G : h.Ns mainGlobals mg) (c : He.SaysD fa fn K) {x : Str} (j : Nat) (hf : fa[j]? = some (He.Fa.free x)) : mg x = none := He.free_ok X G (c.fact j hf)
theorem all_nil {α : Type} {P : α → Prop} : ∀ e ∈ ([] : List α), P e := fun _ h => by cases h
theorem all_cons {α : Type} {P : α → Prop} {x : α} {l : List α} (h : P x) (t : ∀ e ∈ l, P e) : ∀ e ∈ x :: l, P e := fun e he => by
  rcases List.mem_cons.mp he with rfl | he
  · exact h
  · exact t e he
end LL
/-! == N_k01 == -/
set_option Elab.async false
set_option linter.all false
set_option maxRecDepth 1000000
set_option maxHeartbeats 4000000
/-! the defs first met in law k01 -/
namespace LL
open PySem
abbrev Fis_name : Nat := 0
abbrev Fis_integer : Nat := 1
abbrev Fis_index : Nat := 2
abbrev Fis_row_of : Nat := 3
abbrev Fis_set_form : Nat := 4
abbrev Fis_sign : Nat := 5
abbrev Fis_part_head : Nat := 6
abbrev Finner_parts : Nat := 7
abbrev Fis_part : Nat := 8
abbrev Fis_expression : Nat := 9
abbrev Fis_test : Nat := 10
abbrev F_law_draw : Nat := 11
abbrev F_law_any : Nat := 12
abbrev F_law_of : Nat := 13
abbrev F_law_mixed : Nat := 14
abbrev F_law_same : Nat := 15
abbrev F_law_is_int : Nat := 16
abbrev F_law_words : Nat := 17
abbrev F_law_is_name : Nat := 18
abbrev F_law_forms : Nat := 19
abbrev F_law_is_check : Nat := 20
abbrev F_law_some_set : Nat := 21
abbrev F_law_some_part : Nat := 22
abbrev F_law_is_row : Nat := 23
abbrev F_law_is_form : Nat := 24
abbrev F_law_fits : Nat := 25
abbrev F_law_is_part : Nat := 26
abbrev F_law_near_value : Nat := 27
abbrev F_law_wide : Nat := 28
abbrev F_law_looked : Nat := 29
abbrev F_law_near_form : Nat := 30
abbrev Flaw : Nat := 31
def bis_name : LSs :=
 (.cons (.iff [] [] (.or_ (.not_ (.bi (.isi [.str]) (.cons (.v 0) .nil))) (.or_ (.not_ (.chain .le .le (.c (.int 1)) (.bi .len (.cons (.v 0) .nil)) (.g "MOST_SIGNS" (.int 12)))) (.cm .in_ (.v 0) (.g "WORDS" (.tup [.str "num", .str "name", .str "add", .str "sub", .str "mul", .str "div", .str "rest", .str "if", .str "let", .str "call", .str "times", .str "fail", .str "less", .str "same", .str "not", .str "both", .str "either", .str "in", .str "fun", .str "edition", .str "set", .str "change", .str "table", .str "piece", .str "history", .str "wish", .str "code", .str "proc", .str "then", .str "else", .str "end", .str "as", .str "do", .str "at", .str "to", .str "by", .str "of", .str "from", .str "all", .str "some", .str "told", .str "failed", .str "is", .str "where", .str "move", .str "jump", .str "loop", .str "back", .str "rows", .str "slots", .str "entry", .str "log", .str "with", .str "yes", .str "no", .str "or"])))))
 (.cons (.ret [] (.c (.bl false)))
 .nil)
 .nil)
 (.cons (.ret [] (.and_ (.cm .in_ (.ix (.v 0) (.c (.int 0))) (.g "LETTERS" (.str "abcdefghijklmnopqrstuvwxyz"))) (.bi .all (.cons (.comp (.one 1) (.itm (.v 0)) .nop (.or_ (.cm .in_ (.v 1) (.g "LETTERS" (.str "abcdefghijklmnopqrstuvwxyz"))) (.cm .in_ (.v 1) (.g "DIGITS" (.str "0123456789")))) [1]) .nil))))
 .nil))
abbrev nis_name : FnD := ⟨1, 2, bis_name⟩
def bis_integer : LSs :=
 (.cons (.ret [] (.and_ (.bi (.isi [.int]) (.cons (.v 0) .nil)) (.not_ (.bi (.isi [.bool]) (.cons (.v 0) .nil)))))
 .nil)
abbrev nis_integer : FnD := ⟨1, 1, bis_integer⟩
def bis_index : LSs :=
 (.cons (.ret [] (.and_ (.call Fis_integer (.cons (.v 0) .nil)) (.chain .le .lt (.c (.int 0)) (.v 0) (.v 1))))
 .nil)
abbrev nis_index : FnD := ⟨2, 2, bis_index⟩
def bis_row_of : LSs :=
 (.cons (.ret [] (.and_ (.bi (.isi [.tuple]) (.cons (.v 0) .nil)) (.and_ (.cm .eq (.bi .len (.cons (.v 0) .nil)) (.v 1)) (.bi .all (.cons (.comp (.one 3) (.itm (.v 0)) .nop (.call Fis_index (.cons (.v 3) (.cons (.v 2) .nil))) [3]) .nil)))))
 .nil)
abbrev nis_row_of : FnD := ⟨3, 4, bis_row_of⟩
def bis_set_form : LSs :=
 (.cons (.iff [] [] (.or_ (.not_ (.bi (.isi [.tuple]) (.cons (.v 0) .nil))) (.or_ (.cm .ne (.bi .len (.cons (.v 0) .nil)) (.c (.int 4))) (.or_ (.not_ (.bi (.isi [.str]) (.cons (.ix (.v 0) (.c (.int 0))) .nil))) (.cm .ne (.ix (.v 0) (.c (.int 0))) (.c (.str "set"))))))
 (.cons (.ret [] (.c (.bl false)))
 .nil)
 .nil)
 (.cons (.set [] [] (.many [1, 2, 3, 4]) (.v 0))
 (.cons (.iff [] [] (.or_ (.not_ (.call Fis_index (.cons (.v 2) (.cons (.op .add (.g "MOST_HANDED" (.int 4)) (.c (.int 1))) .nil)))) (.or_ (.not_ (.bi (.isi [.tuple]) (.cons (.v 4) .nil))) (.not_ (.chain .le .le (.c (.int 1)) (.bi .len (.cons (.v 4) .nil)) (.g "MOST_PLACES" (.int 1000))))))
 (.cons (.ret [] (.c (.bl false)))
 .nil)
 .nil)
 (.cons (.iff [] [] (.not_ (.call Fis_row_of (.cons (.v 3) (.cons (.bi .len (.cons (.v 4) .nil)) (.cons (.c (.int 2)) .nil)))))
 (.cons (.ret [] (.c (.bl false)))
 .nil)
 .nil)
 (.cons (.ret [] (.bi .all (.cons (.comp (.one 5) (.itm (.v 4)) .nop (.call Fis_row_of (.cons (.v 5) (.cons (.ix (.g "WIDTHS" (.tup [.int 1, .int 2, .int 4, .int 8, .int 16])) (.v 2)) (.cons (.bi .len (.cons (.v 4) .nil)) .nil)))) [5]) .nil)))
 .nil)))))
abbrev nis_set_form : FnD := ⟨1, 6, bis_set_form⟩
def bis_sign : LSs :=
 (.cons (.iff [] [] (.cm .eq (.v 0) (.c (.str "n")))
 (.cons (.ret [] (.call Fis_index (.cons (.v 1) (.cons (.op .add (.g "MOST_NUMBER" (.int 1000000)) (.c (.int 1))) .nil))))
 .nil)
 .nil)
 (.cons (.iff [] [] (.cm .eq (.v 0) (.c (.str "x")))
 (.cons (.ret [] (.call Fis_name (.cons (.v 1) .nil)))
 .nil)
 .nil)
 (.cons (.iff [] [] (.cm .eq (.v 0) (.c (.str "f")))
 (.cons (.ret [] (.call Fis_index (.cons (.v 1) (.cons (.op .add (.g "MOST_FACTOR" (.int 64)) (.c (.int 1))) .nil))))
 .nil)
 .nil)
 (.cons (.iff [] [] (.cm .eq (.v 0) (.c (.str "g")))
 (.cons (.ret [] (.and_ (.call Fis_index (.cons (.v 1) (.cons (.op .add (.g "MOST_FACTOR" (.int 64)) (.c (.int 1))) .nil))) (.cm .gt (.v 1) (.c (.int 0)))))
 .nil)
 .nil)
 (.cons (.iff [] [] (.cm .eq (.v 0) (.c (.str "s")))
 (.cons (.ret [] (.call Fis_set_form (.cons (.v 1) .nil)))
 .nil)
 .nil)
 (.cons (.ret [] (.or_ (.cm .ne (.v 0) (.c (.str "E"))) (.and_ (.bi (.isi [.tuple]) (.cons (.v 1) .nil)) (.cm .le (.bi .len (.cons (.v 1) .nil)) (.g "MOST_HANDED" (.int 4))))))
 .nil))))))
abbrev nis_sign : FnD := ⟨2, 2, bis_sign⟩
def bis_part_head : LSs :=
 (.cons (.iff [] [] (.or_ (.not_ (.bi (.isi [.tuple]) (.cons (.v 0) .nil))) (.or_ (.cm .eq (.v 0) (.tup .nil)) (.or_ (.not_ (.bi (.isi [.str]) (.cons (.ix (.v 0) (.c (.int 0))) .nil))) (.cm .nin (.ix (.v 0) (.c (.int 0))) (.g "FORMS" (.dct ["num", "name", "add", "sub", "mul", "div", "rest", "if", "let", "call", "times", "fail", "less", "same", "not", "both", "either", "in"] [.str "n", .str "x", .str "ee", .str "ee", .str "fe", .str "eg", .str "eg", .str "tee", .str "xee", .str "xE", .str "fxee", .str "x", .str "ee", .str "ee", .str "t", .str "tt", .str "tt", .str "sE"]))))))
 (.cons (.ret [] (.c (.bl false)))
 .nil)
 .nil)
 (.cons (.iff [] [] (.cm .ne (.cm .in_ (.ix (.v 0) (.c (.int 0))) (.g "TESTS" (.tup [.str "less", .str "same", .str "not", .str "both", .str "either", .str "in"]))) (.cm .eq (.v 1) (.c (.str "t"))))
 (.cons (.ret [] (.c (.bl false)))
 .nil)
 .nil)
 (.cons (.set [] [] (.one 2) (.ix (.g "FORMS" (.dct ["num", "name", "add", "sub", "mul", "div", "rest", "if", "let", "call", "times", "fail", "less", "same", "not", "both", "either", "in"] [.str "n", .str "x", .str "ee", .str "ee", .str "fe", .str "eg", .str "eg", .str "tee", .str "xee", .str "xE", .str "fxee", .str "x", .str "ee", .str "ee", .str "t", .str "tt", .str "tt", .str "sE"])) (.ix (.v 0) (.c (.int 0)))))
 (.cons (.ret [] (.and_ (.cm .eq (.bi .len (.cons (.v 0) .nil)) (.op .add (.bi .len (.cons (.v 2) .nil)) (.c (.int 1)))) (.bi .all (.cons (.comp (.many [3, 4]) (.zip (.v 2) (.sl (.v 0) (.c (.int 1)) .nop)) .nop (.call Fis_sign (.cons (.v 3) (.cons (.v 4) .nil))) [3, 4]) .nil))))
 .nil))))
abbrev nis_part_head : FnD := ⟨2, 5, bis_part_head⟩
def binner_parts : LSs :=
 (.cons (.new [] 1 (.lst .nil))
 (.cons (.for_ [] (.many [2, 3]) (.zip (.ix (.g "FORMS" (.dct ["num", "name", "add", "sub", "mul", "div", "rest", "if", "let", "call", "times", "fail", "less", "same", "not", "both", "either", "in"] [.str "n", .str "x", .str "ee", .str "ee", .str "fe", .str "eg", .str "eg", .str "tee", .str "xee", .str "xE", .str "fxee", .str "x", .str "ee", .str "ee", .str "t", .str "tt", .str "tt", .str "sE"])) (.ix (.v 0) (.c (.int 0)))) (.sl (.v 0) (.c (.int 1)) .nop))
 (.cons (.iff [] [] (.cm .in_ (.v 2) (.c (.str "et")))
 (.cons (.app [] [] 1 (.tup (.cons (.v 3) (.cons (.v 2) .nil))))
 .nil)
 (.cons (.iff [] [] (.cm .eq (.v 2) (.c (.str "E")))
 (.cons (.iadd [] 1 (.comp (.one 4) (.itm (.v 3)) .nop (.tup (.cons (.v 4) (.cons (.c (.str "e")) .nil))) [4]))
 .nil)
 .nil)
 .nil))
 .nil))
 (.cons (.ret [1] (.v 1))
 .nil)))
abbrev ninner_parts : FnD := ⟨1, 5, binner_parts⟩
def bis_part : LSs :=
 (.cons (.par [] [] [2, 3] [true, false] (.cons (.lst (.cons (.tup (.cons (.v 0) (.cons (.v 1) (.cons (.c (.int 1)) .nil)))) .nil)) (.cons (.c (.int 0)) .nil)))
 (.cons (.whl [2] [] (.cm .ne (.v 2) (.lst .nil))
 (.cons (.pop (some (.many [4, 5, 6])) 2)
 (.cons (.aug [] [] .add 3 (.c (.int 1)))
 (.cons (.iff [] [] (.or_ (.cm .gt (.v 3) (.g "MOST_PARTS" (.int 200))) (.or_ (.cm .gt (.v 6) (.g "MOST_WITHIN" (.int 30))) (.not_ (.call Fis_part_head (.cons (.v 4) (.cons (.v 5) .nil))))))
 (.cons (.ret [] (.c (.bl false)))
 .nil)
 .nil)
 (.cons (.ext [] 2 (.comp (.many [7, 8]) (.itm (.call Finner_parts (.cons (.v 4) .nil))) .nop (.tup (.cons (.v 7) (.cons (.v 8) (.cons (.op .add (.v 6) (.c (.int 1))) .nil)))) [7, 8]))
 .nil)))))
 (.cons (.ret [] (.c (.bl true)))
 .nil)))
abbrev nis_part : FnD := ⟨2, 9, bis_part⟩
def bis_expression : LSs :=
 (.cons (.ret [] (.call Fis_part (.cons (.v 0) (.cons (.c (.str "e")) .nil))))
 .nil)
abbrev nis_expression : FnD := ⟨1, 1, bis_expression⟩
def bis_test : LSs :=
 (.cons (.ret [] (.call Fis_part (.cons (.v 0) (.cons (.c (.str "t")) .nil))))
 .nil)
abbrev nis_test : FnD := ⟨1, 1, bis_test⟩
def b_law_draw : LSs :=
 (.cons (.set [] [] (.one 2) (.comp (.one 3) (.itm (.sl (.v 0) .nop (.c (.int 48)))) .nop (.op .mod (.bi .abs (.cons (.bi .int (.cons (.v 3) .nil)) .nil)) (.op .pow (.c (.int 10)) (.c (.int 60)))) [3]))
 (.cons (.set [] [] (.one 4) (.op .add (.c (.int 7919)) (.op .mul (.c (.int 104729)) (.v 1))))
 (.cons (.for_ [] (.one 3) (.itm (.v 2))
 (.cons (.set [] [] (.one 4) (.op .mod (.bi .int (.cons (.op .add (.op .add (.op .mul (.v 4) (.c (.int 48271))) (.op .mod (.v 3) (.c (.int 2147483549)))) (.c (.int 11))) .nil)) (.c (.int 2147483647))))
 .nil))
 (.cons (.retD [] [] (.rev (.comp (.one 3) (.itm (.v 2)) (.cm .ge (.v 3) (.op .pow (.c (.int 10)) (.c (.int 18)))) (.v 3) [3])) (.v 4)) .nil))))
abbrev n_law_draw : FnD := ⟨2, 5, b_law_draw⟩
class C_law_any (tb : List (Nat × Rn)) : Prop where
  own : lkN tb F_law_any = some .any
def b_law_of : LSs :=
 (.cons (.ret [] (.ix (.v 1) (.call F_law_any (.cons (.v 0) (.cons (.bi .len (.cons (.v 1) .nil)) .nil)))))
 .nil)
abbrev n_law_of : FnD := ⟨2, 2, b_law_of⟩
def b_law_mixed : LSs :=
 (.cons (.par [] [] [2, 3] [true, true] (.cons (.bi .list (.cons (.v 1) .nil)) (.cons (.lst .nil) .nil)))
 (.cons (.whl [2] [] (.cm .ne (.v 2) (.lst .nil))
 (.cons (.appPop [2] [] 3 2 (.call F_law_any (.cons (.v 0) (.cons (.bi .len (.cons (.v 2) .nil)) .nil))))
 .nil))
 (.cons (.ret [3] (.v 3))
 .nil)))
abbrev n_law_mixed : FnD := ⟨2, 4, b_law_mixed⟩
def b_law_same : LSs :=
 (.cons (.iff [] [] (.bi (.isi [.tuple, .list]) (.cons (.v 1) .nil))
 (.cons (.iff [] [] (.or_ (.cm .ne (.bi (.isi [.tuple]) (.cons (.v 1) .nil)) (.bi (.isi [.tuple]) (.cons (.v 0) .nil))) (.or_ (.not_ (.bi (.isi [.tuple, .list]) (.cons (.v 0) .nil))) (.cm .ne (.bi .len (.cons (.v 0) .nil)) (.bi .len (.cons (.v 1) .nil)))))
 (.cons (.ret [] (.c (.bl false)))
 .nil)
 .nil)
 (.cons (.ret [] (.cm .eq (.comp (.many [2, 3]) (.zip (.v 0) (.v 1)) (.not_ (.call F_law_same (.cons (.v 2) (.cons (.v 3) .nil)))) (.c (.int 0)) [2, 3]) (.lst .nil)))
 .nil))
 .nil)
 (.cons (.iff [] [] (.cm .is_ (.v 1) (.c (.non)))
 (.cons (.ret [] (.cm .is_ (.v 0) (.c (.non))))
 .nil)
 .nil)
 (.cons (.iff [] [] (.cm .is_ (.v 1) (.c (.bl true)))
 (.cons (.ret [] (.cm .is_ (.v 0) (.c (.bl true))))
 .nil)
 .nil)
 (.cons (.iff [] [] (.cm .is_ (.v 1) (.c (.bl false)))
 (.cons (.ret [] (.cm .is_ (.v 0) (.c (.bl false))))
 .nil)
 .nil)
 (.cons (.iff [] [] (.bi (.isi [.int]) (.cons (.v 1) .nil))
 (.cons (.ret [] (.and_ (.bi (.isi [.int]) (.cons (.v 0) .nil)) (.and_ (.not_ (.bi (.isi [.bool]) (.cons (.v 0) .nil))) (.cm .eq (.v 0) (.v 1)))))
 .nil)
 .nil)
 (.cons (.ret [] (.and_ (.bi (.isi [.str]) (.cons (.v 0) .nil)) (.cm .eq (.v 0) (.v 1))))
 .nil))))))
abbrev n_law_same : FnD := ⟨2, 4, b_law_same⟩
def b_law_is_int : LSs :=
 (.cons (.ret [] (.and_ (.bi (.isi [.int]) (.cons (.v 0) .nil)) (.not_ (.bi (.isi [.bool]) (.cons (.v 0) .nil)))))
 .nil)
abbrev n_law_is_int : FnD := ⟨1, 1, b_law_is_int⟩
def b_law_words : LSs :=
 (.cons (.set [] [] (.one 0) (.c (.str "num name add sub mul div rest if let call times fail less same not both either in fun edition set change table piece history wish code proc then else end as")))
 (.cons (.set [] [] (.one 0) (.op .add (.v 0) (.c (.str " do at to by of from all some told failed is where move jump loop back rows slots entry log with yes no or"))))
 (.cons (.ret [] (.smeth .split (.v 0) (.c (.str " "))))
 .nil)))
abbrev n_law_words : FnD := ⟨0, 1, b_law_words⟩
def b_law_is_name : LSs :=
 (.cons (.iff [] [] (.or_ (.not_ (.bi (.isi [.str]) (.cons (.v 0) .nil))) (.or_ (.not_ (.chain .le .le (.c (.int 1)) (.bi .len (.cons (.v 0) .nil)) (.c (.int 12)))) (.cm .in_ (.v 0) (.call F_law_words .nil))))
 (.cons (.ret [] (.c (.bl false)))
 .nil)
 .nil)
 (.cons (.ret [] (.and_ (.cm .in_ (.ix (.v 0) (.c (.int 0))) (.c (.str "abcdefghijklmnopqrstuvwxyz"))) (.cm .eq (.comp (.one 1) (.itm (.v 0)) (.cm .nin (.v 1) (.c (.str "abcdefghijklmnopqrstuvwxyz0123456789"))) (.v 1) [1]) (.lst .nil))))
 .nil))
abbrev n_law_is_name : FnD := ⟨1, 2, b_law_is_name⟩
def b_law_forms : LSs :=
 (.cons (.ret [] (.dsp [("num", "n"), ("name", "x"), ("add", "ee"), ("sub", "ee"), ("mul", "fe"), ("div", "eg"), ("rest", "eg"), ("if", "tee"), ("let", "xee"), ("call", "xE"), ("times", "fxee"), ("fail", "x"), ("less", "ee"), ("same", "ee"), ("not", "t"), ("both", "tt"), ("either", "tt")] "in" "sE"))
 .nil)
abbrev n_law_forms : FnD := ⟨0, 0, b_law_forms⟩
def b_law_is_check : LSs :=
 (.cons (.ret [] (.cm .in_ (.ix (.v 0) (.c (.int 0))) (.lst (.cons (.c (.str "less")) (.cons (.c (.str "same")) (.cons (.c (.str "not")) (.cons (.c (.str "both")) (.cons (.c (.str "either")) (.cons (.c (.str "in")) .nil)))))))))
 .nil)
abbrev n_law_is_check : FnD := ⟨1, 1, b_law_is_check⟩
def b_law_some_set : LSs :=
 (.cons (.iff [] [] (.cm .eq (.v 1) (.c (.int 1)))
 (.cons (.ret [] (.call F_law_of (.cons (.v 0) (.cons (.lst (.cons (.tup (.cons (.c (.str "set")) (.cons (.c (.int 1)) (.cons (.tup (.cons (.c (.int 1)) .nil)) (.cons (.tup (.cons (.tup (.cons (.c (.int 0)) (.cons (.c (.int 0)) .nil))) .nil)) .nil))))) (.cons (.tup (.cons (.c (.str "set")) (.cons (.c (.int 1)) (.cons (.tup (.cons (.c (.int 0)) .nil)) (.cons (.tup (.cons (.tup (.cons (.c (.int 0)) (.cons (.c (.int 0)) .nil))) .nil)) .nil))))) (.cons (.tup (.cons (.c (.str "set")) (.cons (.c (.int 1)) (.cons (.tup (.cons (.c (.int 1)) (.cons (.c (.int 0)) .nil))) (.cons (.tup (.cons (.tup (.cons (.c (.int 0)) (.cons (.c (.int 1)) .nil))) (.cons (.tup (.cons (.c (.int 1)) (.cons (.c (.int 1)) .nil))) .nil))) .nil))))) (.cons (.tup (.cons (.c (.str "set")) (.cons (.c (.int 1)) (.cons (.tup (.cons (.c (.int 0)) (.cons (.c (.int 1)) .nil))) (.cons (.tup (.cons (.tup (.cons (.c (.int 0)) (.cons (.c (.int 1)) .nil))) (.cons (.tup (.cons (.c (.int 1)) (.cons (.c (.int 1)) .nil))) .nil))) .nil))))) .nil))))) .nil))))
 .nil)
 .nil)
 (.cons (.ret [] (.tup (.cons (.c (.str "set")) (.cons (.v 1) (.cons (.tup (.cons (.call F_law_any (.cons (.v 0) (.cons (.c (.int 2)) .nil))) .nil)) (.cons (.tup (.cons (.op .mul (.tup (.cons (.c (.int 0)) .nil)) (.ix (.lst (.cons (.c (.int 1)) (.cons (.c (.int 2)) (.cons (.c (.int 4)) (.cons (.c (.int 8)) (.cons (.c (.int 16)) .nil)))))) (.v 1))) .nil)) .nil))))))
 .nil))
abbrev n_law_some_set : FnD := ⟨2, 2, b_law_some_set⟩
def b_law_some_part : LSs :=
 (.cons (.iff [] [] (.cm .eq (.v 1) (.c (.str "t")))
 (.cons (.set [] [] (.one 5) (.call F_law_of (.cons (.v 0) (.cons (.ite (.cm .lt (.v 4) (.c (.int 2))) (.lst (.cons (.c (.str "less")) (.cons (.c (.str "same")) (.cons (.c (.str "less")) (.cons (.c (.str "same")) (.cons (.c (.str "in")) .nil)))))) (.lst (.cons (.c (.str "less")) (.cons (.c (.str "same")) (.cons (.c (.str "not")) (.cons (.c (.str "both")) (.cons (.c (.str "either")) (.cons (.c (.str "in")) .nil)))))))) .nil))))
 (.cons (.iff [] [] (.cm .eq (.v 5) (.c (.str "in")))
 (.cons (.set [] [] (.one 6) (.call F_law_of (.cons (.v 0) (.cons (.lst (.cons (.c (.int 0)) (.cons (.c (.int 1)) (.cons (.c (.int 1)) (.cons (.c (.int 2)) .nil))))) .nil))))
 (.cons (.ret [] (.tup (.cons (.c (.str "in")) (.cons (.call F_law_some_set (.cons (.v 0) (.cons (.v 6) .nil))) (.cons (.bi .tuple (.cons (.comp (.one 7) (.rng1 (.v 6)) .nop (.call F_law_some_part (.cons (.v 0) (.cons (.c (.str "e")) (.cons (.v 2) (.cons (.v 3) (.cons (.bi .min (.cons (.op .sub (.v 4) (.c (.int 1))) (.cons (.c (.int 1)) .nil))) .nil)))))) [7]) .nil)) .nil)))))
 .nil))
 .nil)
 (.cons (.set [] [] (.one 8) (.ix (.call F_law_forms .nil) (.v 5)))
 (.cons (.ret [] (.op .add (.tup (.cons (.v 5) .nil)) (.bi .tuple (.cons (.comp (.one 9) (.itm (.v 8)) .nop (.call F_law_some_part (.cons (.v 0) (.cons (.v 9) (.cons (.v 2) (.cons (.v 3) (.cons (.op .sub (.v 4) (.c (.int 1))) .nil)))))) [9]) .nil))))
 .nil))))
 .nil)
 (.cons (.iff [] [] (.or_ (.cm .lt (.v 4) (.c (.int 1))) (.cm .eq (.call F_law_any (.cons (.v 0) (.cons (.c (.int 6)) .nil))) (.c (.int 0))))
 (.cons (.set [] [] (.one 10) (.tup (.cons (.c (.str "num")) (.cons (.call F_law_of (.cons (.v 0) (.cons (.lst (.cons (.c (.int 0)) (.cons (.c (.int 1)) (.cons (.c (.int 2)) (.cons (.c (.int 3)) (.cons (.c (.int 5)) (.cons (.c (.int 9)) (.cons (.call F_law_any (.cons (.v 0) (.cons (.c (.int 60)) .nil))) .nil)))))))) .nil))) .nil))))
 (.cons (.ret [] (.ite (.and_ (.cm .ne (.v 2) (.lst .nil)) (.cm .gt (.call F_law_any (.cons (.v 0) (.cons (.c (.int 3)) .nil))) (.c (.int 0)))) (.tup (.cons (.c (.str "name")) (.cons (.call F_law_of (.cons (.v 0) (.cons (.v 2) .nil))) .nil))) (.v 10)))
 .nil))
 .nil)
 (.cons (.set [] [] (.one 5) (.call F_law_of (.cons (.v 0) (.cons (.lst (.cons (.c (.str "add")) (.cons (.c (.str "add")) (.cons (.c (.str "sub")) (.cons (.c (.str "sub")) (.cons (.c (.str "mul")) (.cons (.c (.str "div")) (.cons (.c (.str "rest")) (.cons (.c (.str "if")) (.cons (.c (.str "if")) (.cons (.c (.str "let")) (.cons (.c (.str "times")) (.cons (.c (.str "call")) (.cons (.c (.str "call")) (.cons (.c (.str "fail")) .nil))))))))))))))) .nil))))
 (.cons (.iff [] [] (.or_ (.and_ (.cm .eq (.v 5) (.c (.str "fail"))) (.cm .gt (.call F_law_any (.cons (.v 0) (.cons (.c (.int 3)) .nil))) (.c (.int 0)))) (.and_ (.cm .eq (.v 5) (.c (.str "call"))) (.cm .eq (.v 3) (.lst .nil))))
 (.cons (.set [] [] (.one 5) (.c (.str "sub")))
 .nil)
 .nil)
 (.cons (.iff [] [] (.cm .eq (.v 5) (.c (.str "mul")))
 (.cons (.ret [] (.tup (.cons (.c (.str "mul")) (.cons (.call F_law_of (.cons (.v 0) (.cons (.lst (.cons (.c (.int 0)) (.cons (.c (.int 1)) (.cons (.c (.int 2)) (.cons (.c (.int 3)) .nil))))) .nil))) (.cons (.call F_law_some_part (.cons (.v 0) (.cons (.c (.str "e")) (.cons (.v 2) (.cons (.v 3) (.cons (.op .sub (.v 4) (.c (.int 1))) .nil)))))) .nil)))))
 .nil)
 .nil)
 (.cons (.iff [] [] (.cm .in_ (.v 5) (.lst (.cons (.c (.str "div")) (.cons (.c (.str "rest")) .nil))))
 (.cons (.ret [] (.tup (.cons (.v 5) (.cons (.call F_law_some_part (.cons (.v 0) (.cons (.c (.str "e")) (.cons (.v 2) (.cons (.v 3) (.cons (.op .sub (.v 4) (.c (.int 1))) .nil)))))) (.cons (.call F_law_of (.cons (.v 0) (.cons (.lst (.cons (.c (.int 1)) (.cons (.c (.int 2)) (.cons (.c (.int 2)) (.cons (.c (.int 3)) (.cons (.c (.int 4)) (.cons (.c (.int 5)) (.cons (.c (.int 7)) .nil)))))))) .nil))) .nil)))))
 .nil)
 .nil)
 (.cons (.iff [] [] (.cm .eq (.v 5) (.c (.str "fail")))
 (.cons (.ret [] (.tup (.cons (.c (.str "fail")) (.cons (.call F_law_of (.cons (.v 0) (.cons (.lst (.cons (.c (.str "far")) (.cons (.c (.str "odd")) (.cons (.c (.str "f")) (.cons (.c (.str "x")) (.cons (.c (.str "abcdefghijkl")) (.cons (.c (.str "abcdefghijkm")) .nil))))))) .nil))) .nil))))
 .nil)
 .nil)
 (.cons (.iff [] [] (.cm .eq (.v 5) (.c (.str "call")))
 (.cons (.set [] [] (.many [11, 6]) (.call F_law_of (.cons (.v 0) (.cons (.v 3) .nil))))
 (.cons (.ret [] (.tup (.cons (.c (.str "call")) (.cons (.v 11) (.cons (.bi .tuple (.cons (.comp (.one 7) (.rng1 (.v 6)) .nop (.call F_law_some_part (.cons (.v 0) (.cons (.c (.str "e")) (.cons (.v 2) (.cons (.v 3) (.cons (.op .sub (.v 4) (.c (.int 2))) .nil)))))) [7]) .nil)) .nil)))))
 .nil))
 .nil)
 (.cons (.iff [] [] (.cm .in_ (.v 5) (.lst (.cons (.c (.str "let")) (.cons (.c (.str "times")) .nil))))
 (.cons (.set [] [] (.one 11) (.call F_law_of (.cons (.v 0) (.cons (.op .add (.lst (.cons (.c (.str "x")) (.cons (.c (.str "y")) (.cons (.c (.str "v0")) (.cons (.c (.str "z")) .nil))))) (.v 2)) .nil))))
 (.cons (.par [] [] [12, 13] [false, false] (.cons (.call F_law_some_part (.cons (.v 0) (.cons (.c (.str "e")) (.cons (.v 2) (.cons (.v 3) (.cons (.op .sub (.v 4) (.c (.int 2))) .nil)))))) (.cons (.call F_law_some_part (.cons (.v 0) (.cons (.c (.str "e")) (.cons (.op .add (.comp (.one 14) (.itm (.v 2)) (.cm .ne (.v 14) (.v 11)) (.v 14) [14]) (.lst (.cons (.v 11) .nil))) (.cons (.v 3) (.cons (.op .sub (.v 4) (.c (.int 2))) .nil)))))) .nil)))
 (.cons (.ret [] (.ite (.cm .eq (.v 5) (.c (.str "let"))) (.tup (.cons (.c (.str "let")) (.cons (.v 11) (.cons (.v 12) (.cons (.v 13) .nil))))) (.tup (.cons (.c (.str "times")) (.cons (.call F_law_of (.cons (.v 0) (.cons (.lst (.cons (.c (.int 0)) (.cons (.c (.int 1)) (.cons (.c (.int 2)) (.cons (.c (.int 3)) .nil))))) .nil))) (.cons (.v 11) (.cons (.v 12) (.cons (.v 13) .nil))))))))
 .nil)))
 .nil)
 (.cons (.ret [] (.op .add (.tup (.cons (.v 5) .nil)) (.bi .tuple (.cons (.comp (.one 9) (.itm (.ix (.call F_law_forms .nil) (.v 5))) .nop (.call F_law_some_part (.cons (.v 0) (.cons (.v 9) (.cons (.v 2) (.cons (.v 3) (.cons (.op .sub (.v 4) (.c (.int 1))) .nil)))))) [9]) .nil))))
 .nil))))))))))
abbrev n_law_some_part : FnD := ⟨5, 15, b_law_some_part⟩
def b_law_is_row : LSs :=
 (.cons (.ret [] (.and_ (.bi (.isi [.tuple]) (.cons (.v 0) .nil)) (.and_ (.cm .eq (.bi .len (.cons (.v 0) .nil)) (.v 1)) (.cm .eq (.comp (.one 3) (.itm (.v 0)) (.or_ (.not_ (.call F_law_is_int (.cons (.v 3) .nil))) (.not_ (.chain .le .lt (.c (.int 0)) (.v 3) (.v 2)))) (.v 3) [3]) (.lst .nil)))))
 .nil)
abbrev n_law_is_row : FnD := ⟨3, 4, b_law_is_row⟩
def b_law_is_form : LSs :=
 (.cons (.iff [] [] (.or_ (.not_ (.bi (.isi [.tuple]) (.cons (.v 0) .nil))) (.or_ (.cm .ne (.bi .len (.cons (.v 0) .nil)) (.c (.int 4))) (.or_ (.not_ (.bi (.isi [.str]) (.cons (.ix (.v 0) (.c (.int 0))) .nil))) (.or_ (.cm .ne (.ix (.v 0) (.c (.int 0))) (.c (.str "set"))) (.or_ (.not_ (.call F_law_is_int (.cons (.ix (.v 0) (.c (.int 1))) .nil))) (.not_ (.chain .le .le (.c (.int 0)) (.ix (.v 0) (.c (.int 1))) (.c (.int 4)))))))))
 (.cons (.ret [] (.c (.bl false)))
 .nil)
 .nil)
 (.cons (.iff [] [] (.or_ (.not_ (.bi (.isi [.tuple]) (.cons (.ix (.v 0) (.c (.int 3))) .nil))) (.or_ (.not_ (.chain .le .le (.c (.int 1)) (.bi .len (.cons (.ix (.v 0) (.c (.int 3))) .nil)) (.c (.int 1000)))) (.not_ (.call F_law_is_row (.cons (.ix (.v 0) (.c (.int 2))) (.cons (.bi .len (.cons (.ix (.v 0) (.c (.int 3))) .nil)) (.cons (.c (.int 2)) .nil)))))))
 (.cons (.ret [] (.c (.bl false)))
 .nil)
 .nil)
 (.cons (.ret [] (.cm .eq (.comp (.one 1) (.itm (.ix (.v 0) (.c (.int 3)))) (.not_ (.call F_law_is_row (.cons (.v 1) (.cons (.ix (.lst (.cons (.c (.int 1)) (.cons (.c (.int 2)) (.cons (.c (.int 4)) (.cons (.c (.int 8)) (.cons (.c (.int 16)) .nil)))))) (.ix (.v 0) (.c (.int 1)))) (.cons (.bi .len (.cons (.ix (.v 0) (.c (.int 3))) .nil)) .nil))))) (.v 1) [1]) (.lst .nil)))
 .nil)))
abbrev n_law_is_form : FnD := ⟨1, 2, b_law_is_form⟩
def b_law_fits : LSs :=
 (.cons (.iff [] [] (.cm .in_ (.v 0) (.lst (.cons (.c (.str "n")) (.cons (.c (.str "f")) (.cons (.c (.str "g")) .nil)))))
 (.cons (.ret [] (.and_ (.call F_law_is_int (.cons (.v 1) .nil)) (.chain .le .le (.ite (.cm .eq (.v 0) (.c (.str "g"))) (.c (.int 1)) (.c (.int 0))) (.v 1) (.ite (.cm .eq (.v 0) (.c (.str "n"))) (.c (.int 1000000)) (.c (.int 64))))))
 .nil)
 .nil)
 (.cons (.iff [] [] (.cm .eq (.v 0) (.c (.str "x")))
 (.cons (.ret [] (.call F_law_is_name (.cons (.v 1) .nil)))
 .nil)
 .nil)
 (.cons (.iff [] [] (.cm .eq (.v 0) (.c (.str "s")))
 (.cons (.ret [] (.call F_law_is_form (.cons (.v 1) .nil)))
 .nil)
 .nil)
 (.cons (.ret [] (.or_ (.cm .ne (.v 0) (.c (.str "E"))) (.and_ (.bi (.isi [.tuple]) (.cons (.v 1) .nil)) (.cm .le (.bi .len (.cons (.v 1) .nil)) (.c (.int 4))))))
 .nil))))
abbrev n_law_fits : FnD := ⟨2, 2, b_law_fits⟩
def b_law_is_part : LSs :=
 (.cons (.par [] [] [2, 3, 4] [true, false, false] (.cons (.lst (.cons (.tup (.cons (.v 0) (.cons (.v 1) (.cons (.c (.int 1)) .nil)))) .nil)) (.cons (.c (.int 0)) (.cons (.call F_law_forms .nil) .nil))))
 (.cons (.forR [] [] 5 .nop (.c (.int 1000))
 (.cons (.iff [2] [] (.cm .eq (.v 2) (.lst .nil))
 (.cons .brk
 .nil)
 .nil)
 (.cons (.pop (some (.many [6, 7, 8])) 2)
 (.cons (.set [] [] (.one 3) (.op .add (.v 3) (.c (.int 1))))
 (.cons (.iff [] [] (.or_ (.cm .gt (.v 3) (.c (.int 200))) (.or_ (.cm .gt (.v 8) (.c (.int 30))) (.or_ (.not_ (.bi (.isi [.tuple]) (.cons (.v 6) .nil))) (.or_ (.cm .eq (.bi .len (.cons (.v 6) .nil)) (.c (.int 0))) (.or_ (.not_ (.bi (.isi [.str]) (.cons (.ix (.v 6) (.c (.int 0))) .nil))) (.cm .nin (.ix (.v 6) (.c (.int 0))) (.v 4)))))))
 (.cons (.ret [] (.c (.bl false)))
 .nil)
 .nil)
 (.cons (.iff [] [] (.or_ (.cm .ne (.call F_law_is_check (.cons (.v 6) .nil)) (.cm .eq (.v 7) (.c (.str "t")))) (.cm .ne (.bi .len (.cons (.v 6) .nil)) (.op .add (.bi .len (.cons (.ix (.v 4) (.ix (.v 6) (.c (.int 0)))) .nil)) (.c (.int 1)))))
 (.cons (.ret [] (.c (.bl false)))
 .nil)
 .nil)
 (.cons (.for_ [] (.many [9, 10]) (.zip (.ix (.v 4) (.ix (.v 6) (.c (.int 0)))) (.sl (.v 6) (.c (.int 1)) .nop))
 (.cons (.iff [] [] (.not_ (.call F_law_fits (.cons (.v 9) (.cons (.v 10) .nil))))
 (.cons (.ret [] (.c (.bl false)))
 .nil)
 .nil)
 (.cons (.iff [] [] (.cm .in_ (.v 9) (.lst (.cons (.c (.str "e")) (.cons (.c (.str "t")) .nil))))
 (.cons (.app [] [] 2 (.tup (.cons (.v 10) (.cons (.v 9) (.cons (.op .add (.v 8) (.c (.int 1))) .nil)))))
 .nil)
 .nil)
 (.cons (.iff [] [] (.cm .eq (.v 9) (.c (.str "E")))
 (.cons (.new [2] 2 (.op .add (.v 2) (.comp (.one 11) (.itm (.v 10)) .nop (.tup (.cons (.v 11) (.cons (.c (.str "e")) (.cons (.op .add (.v 8) (.c (.int 1))) .nil)))) [11])))
 .nil)
 .nil)
 .nil))))
 .nil)))))))
 (.cons (.ret [2] (.cm .eq (.v 2) (.lst .nil)))
 .nil)))
abbrev n_law_is_part : FnD := ⟨2, 12, b_law_is_part⟩
def b_law_near_value : LSs :=
 (.cons (.set [] [] (.one 2) (.lst (.cons (.c (.non)) (.cons (.c (.int 3)) (.cons (.neg (.c (.int 1))) (.cons (.c (.bl true)) (.cons (.c (.str "x")) (.cons (.c (.str "num")) (.cons (.c (.str "")) (.cons (.tup .nil) (.cons (.tup (.cons (.c (.str "num")) .nil)) (.cons (.tup (.cons (.c (.str "num")) (.cons (.neg (.c (.int 1))) .nil))) (.cons (.tup (.cons (.c (.str "num")) (.cons (.c (.int 1000001)) .nil))) (.cons (.tup (.cons (.c (.str "num")) (.cons (.c (.int 1000000)) .nil))) (.cons (.tup (.cons (.c (.str "num")) (.cons (.c (.bl true)) .nil))) (.cons (.tup (.cons (.c (.str "name")) (.cons (.c (.str "if")) .nil))) (.cons (.tup (.cons (.c (.str "name")) (.cons (.c (.str "v1")) .nil))) .nil)))))))))))))))))
 (.cons (.set [] [] (.one 2) (.op .add (.v 2) (.lst (.cons (.tup (.cons (.c (.str "same")) (.cons (.tup (.cons (.c (.str "num")) (.cons (.c (.int 1)) .nil))) (.cons (.tup (.cons (.c (.str "num")) (.cons (.c (.int 1)) .nil))) .nil)))) (.cons (.lst (.cons (.c (.str "num")) (.cons (.c (.int 1)) .nil))) (.cons (.tup (.cons (.c (.str "fail")) (.cons (.c (.str "then")) .nil))) (.cons (.tup (.cons (.c (.str "in")) (.cons (.tup (.cons (.c (.str "set")) (.cons (.c (.int 0)) (.cons (.tup (.cons (.c (.int 1)) .nil)) (.cons (.tup (.cons (.tup (.cons (.c (.int 0)) .nil)) .nil)) .nil))))) (.cons (.tup .nil) .nil)))) (.cons (.c (.int 64)) (.cons (.c (.int 65)) (.cons (.c (.int 0)) .nil))))))))))
 (.cons (.iff [] [] (.or_ (.not_ (.bi (.isi [.tuple]) (.cons (.v 1) .nil))) (.or_ (.cm .eq (.v 1) (.tup .nil)) (.cm .eq (.call F_law_any (.cons (.v 0) (.cons (.c (.int 5)) .nil))) (.c (.int 0)))))
 (.cons (.ret [] (.call F_law_of (.cons (.v 0) (.cons (.op .add (.v 2) (.lst (.cons (.ite (.bi (.isi [.tuple]) (.cons (.v 1) .nil)) (.op .add (.v 1) (.tup (.cons (.c (.int 0)) .nil))) (.v 1)) (.cons (.ite (.bi (.isi [.tuple]) (.cons (.v 1) .nil)) (.bi .list (.cons (.v 1) .nil)) (.v 1)) .nil)))) .nil))))
 .nil)
 .nil)
 (.cons (.set [] [] (.one 3) (.call F_law_any (.cons (.v 0) (.cons (.bi .len (.cons (.v 1) .nil)) .nil))))
 (.cons (.ret [] (.op .add (.op .add (.sl (.v 1) .nop (.v 3)) (.tup (.cons (.call F_law_near_value (.cons (.v 0) (.cons (.ix (.v 1) (.v 3)) .nil))) .nil))) (.sl (.v 1) (.op .add (.v 3) (.c (.int 1))) .nop)))
 .nil)))))
abbrev n_law_near_value : FnD := ⟨2, 4, b_law_near_value⟩
def b_law_wide : LSs :=
 (.cons (.set [] [] (.one 3) (.op .mul (.lst (.cons (.tup (.cons (.c (.str "name")) (.cons (.c (.str "x")) .nil))) .nil)) (.op .fdiv (.op .add (.v 1) (.c (.int 1))) (.c (.int 2)))))
 (.cons (.forR [] [] 4 .nop (.c (.int 300))
 (.cons (.iff [] [] (.cm .gt (.bi .len (.cons (.v 3) .nil)) (.c (.int 1)))
 (.cons (.set [] [] (.one 3) (.op .add (.sl (.v 3) (.c (.int 2)) .nop) (.lst (.cons (.tup (.cons (.call F_law_of (.cons (.v 0) (.cons (.lst (.cons (.c (.str "add")) (.cons (.c (.str "sub")) .nil))) .nil))) (.cons (.ix (.v 3) (.c (.int 0))) (.cons (.ix (.v 3) (.c (.int 1))) .nil)))) .nil))))
 .nil)
 .nil)
 .nil))
 (.cons (.ret [] (.ix (.v 3) (.c (.int 0))))
 .nil)))
abbrev n_law_wide : FnD := ⟨3, 5, b_law_wide⟩
def b_law_looked : LSs :=
 (.cons (.ret [] (.call F_law_same (.cons (.lst (.cons (.call Fis_expression (.cons (.v 0) .nil)) (.cons (.call Fis_test (.cons (.v 0) .nil)) .nil))) (.cons (.lst (.cons (.call F_law_is_part (.cons (.v 0) (.cons (.c (.str "e")) .nil))) (.cons (.call F_law_is_part (.cons (.v 0) (.cons (.c (.str "t")) .nil))) .nil))) .nil))))
 .nil)
abbrev n_law_looked : FnD := ⟨1, 1, b_law_looked⟩
def b_law_near_form : LSs :=
 (.cons (.par [] [] [1, 2] [false, false] (.cons (.call F_law_of (.cons (.v 0) (.cons (.lst (.cons (.c (.int 1)) (.cons (.c (.int 2)) (.cons (.c (.int 3)) (.cons (.c (.int 5)) (.cons (.c (.int 999)) (.cons (.c (.int 1000)) (.cons (.c (.int 1001)) .nil)))))))) .nil))) (.cons (.call F_law_of (.cons (.v 0) (.cons (.lst (.cons (.c (.int 0)) (.cons (.c (.int 1)) (.cons (.c (.int 2)) (.cons (.c (.int 3)) (.cons (.c (.int 4)) (.cons (.c (.int 5)) .nil))))))) .nil))) .nil)))
 (.cons (.set [] [] (.one 3) (.ix (.lst (.cons (.c (.int 1)) (.cons (.c (.int 2)) (.cons (.c (.int 4)) (.cons (.c (.int 8)) (.cons (.c (.int 16)) (.cons (.c (.int 32)) .nil))))))) (.v 2)))
 (.cons (.set [] [] (.one 4) (.tup (.cons (.c (.str "set")) (.cons (.v 2) (.cons (.bi .tuple (.cons (.comp (.one 5) (.rng1 (.v 1)) .nop (.call F_law_any (.cons (.v 0) (.cons (.c (.int 2)) .nil))) [5]) .nil)) (.cons (.bi .tuple (.cons (.comp (.one 5) (.rng1 (.v 1)) .nop (.bi .tuple (.cons (.comp (.one 6) (.rng1 (.v 3)) .nop (.op .mod (.op .add (.op .mul (.v 5) (.c (.int 7))) (.v 6)) (.v 1)) [6]) .nil)) [5]) .nil)) .nil))))))
 (.cons (.iff [] [] (.cm .eq (.call F_law_any (.cons (.v 0) (.cons (.c (.int 2)) .nil))) (.c (.int 0)))
 (.cons (.ret [] (.v 4))
 .nil)
 .nil)
 (.cons (.set [] [] (.one 7) (.lst (.cons (.sl (.v 4) .nop (.c (.int 3))) (.cons (.op .add (.v 4) (.tup (.cons (.c (.int 0)) .nil))) (.cons (.bi .list (.cons (.v 4) .nil)) (.cons (.op .add (.tup (.cons (.c (.str "sets")) .nil)) (.sl (.v 4) (.c (.int 1)) .nop)) (.cons (.op .add (.op .add (.sl (.v 4) .nop (.c (.int 1))) (.tup (.cons (.c (.bl true)) .nil))) (.sl (.v 4) (.c (.int 2)) .nop)) (.cons (.op .add (.op .add (.sl (.v 4) .nop (.c (.int 2))) (.tup (.cons (.sl (.ix (.v 4) (.c (.int 2))) .nop (.neg (.c (.int 1)))) .nil))) (.sl (.v 4) (.c (.int 3)) .nop)) .nil))))))))
 (.cons (.set [] [] (.one 7) (.op .add (.v 7) (.lst (.cons (.op .add (.op .add (.sl (.v 4) .nop (.c (.int 2))) (.tup (.cons (.op .add (.tup (.cons (.c (.int 2)) .nil)) (.sl (.ix (.v 4) (.c (.int 2))) (.c (.int 1)) .nop)) .nil))) (.sl (.v 4) (.c (.int 3)) .nop)) (.cons (.op .add (.op .add (.sl (.v 4) .nop (.c (.int 2))) (.tup (.cons (.op .add (.tup (.cons (.c (.bl true)) .nil)) (.sl (.ix (.v 4) (.c (.int 2))) (.c (.int 1)) .nop)) .nil))) (.sl (.v 4) (.c (.int 3)) .nop)) .nil)))))
 (.cons (.set [] [] (.one 7) (.op .add (.v 7) (.lst (.cons (.op .add (.sl (.v 4) .nop (.c (.int 3))) (.tup (.cons (.sl (.ix (.v 4) (.c (.int 3))) .nop (.neg (.c (.int 1)))) .nil))) (.cons (.op .add (.sl (.v 4) .nop (.c (.int 3))) (.tup (.cons (.op .add (.sl (.ix (.v 4) (.c (.int 3))) .nop (.neg (.c (.int 1)))) (.tup (.cons (.sl (.ix (.ix (.v 4) (.c (.int 3))) (.neg (.c (.int 1)))) .nop (.neg (.c (.int 1)))) .nil))) .nil))) (.cons (.op .add (.sl (.v 4) .nop (.c (.int 3))) (.tup (.cons (.op .add (.sl (.ix (.v 4) (.c (.int 3))) .nop (.neg (.c (.int 1)))) (.tup (.cons (.op .mul (.tup (.cons (.v 1) .nil)) (.v 3)) .nil))) .nil))) .nil))))))
 (.cons (.set [] [] (.one 7) (.op .add (.v 7) (.lst (.cons (.op .add (.sl (.v 4) .nop (.c (.int 3))) (.tup (.cons (.op .add (.sl (.ix (.v 4) (.c (.int 3))) .nop (.neg (.c (.int 1)))) (.tup (.cons (.op .mul (.tup (.cons (.neg (.c (.int 1))) .nil)) (.v 3)) .nil))) .nil))) (.cons (.op .add (.sl (.v 4) .nop (.c (.int 3))) (.tup (.cons (.bi .list (.cons (.ix (.v 4) (.c (.int 3))) .nil)) .nil))) (.cons (.c (.non)) (.cons (.tup (.cons (.c (.str "set")) (.cons (.c (.int 0)) (.cons (.tup .nil) (.cons (.tup .nil) .nil))))) .nil)))))))
 (.cons (.ret [] (.call F_law_of (.cons (.v 0) (.cons (.v 7) .nil))))
 .nil)))))))))
abbrev n_law_near_form : FnD := ⟨1, 8, b_law_near_form⟩
def blaw : LSs :=
 (.cons (.set [] [] (.one 1) (.call F_law_draw (.cons (.v 0) (.cons (.c (.int 1)) .nil))))
 (.cons (.forR [] [] 2 .nop (.c (.int 14))
 (.cons (.set [] [] (.one 3) (.sl (.call F_law_mixed (.cons (.v 1) (.cons (.lst (.cons (.c (.str "x")) (.cons (.c (.str "y")) (.cons (.c (.str "n")) (.cons (.c (.str "v0")) (.cons (.c (.str "abcdefghijkl")) .nil)))))) .nil))) .nop (.call F_law_any (.cons (.v 1) (.cons (.c (.int 4)) .nil)))))
 (.cons (.set [] [] (.one 4) (.call F_law_some_part (.cons (.v 1) (.cons (.call F_law_of (.cons (.v 1) (.cons (.lst (.cons (.c (.str "e")) (.cons (.c (.str "e")) (.cons (.c (.str "t")) .nil)))) .nil))) (.cons (.v 3) (.cons (.lst (.cons (.tup (.cons (.c (.str "f")) (.cons (.c (.int 1)) .nil))) (.cons (.tup (.cons (.c (.str "g")) (.cons (.c (.int 0)) .nil))) (.cons (.tup (.cons (.c (.str "h")) (.cons (.c (.int 4)) .nil))) .nil)))) (.cons (.call F_law_of (.cons (.v 1) (.cons (.lst (.cons (.c (.int 0)) (.cons (.c (.int 1)) (.cons (.c (.int 2)) (.cons (.c (.int 3)) (.cons (.c (.int 4)) (.cons (.c (.int 5)) .nil))))))) .nil))) .nil)))))))
 (.cons (.set [] [] (.one 5) (.call F_law_near_value (.cons (.v 1) (.cons (.v 4) .nil))))
 (.cons (.set [] [] (.one 6) (.call F_law_near_form (.cons (.v 1) .nil)))
 (.cons (.iff [] [] (.or_ (.not_ (.call F_law_looked (.cons (.v 4) .nil))) (.or_ (.not_ (.call F_law_looked (.cons (.v 5) .nil))) (.or_ (.not_ (.call F_law_looked (.cons (.tup (.cons (.c (.str "in")) (.cons (.v 6) (.cons (.tup .nil) .nil)))) .nil))) (.not_ (.call F_law_same (.cons (.call Fis_set_form (.cons (.v 6) .nil)) (.cons (.call F_law_is_form (.cons (.v 6) .nil)) .nil)))))))
 (.cons (.ret [] (.c (.bl false)))
 .nil)
 .nil)
 .nil))))))
 (.cons (.for_ [] (.one 7) (.itm (.lst (.cons (.c (.int 199)) (.cons (.c (.int 201)) .nil))))
 (.cons (.set [] [] (.one 8) (.tup (.cons (.c (.str "not")) (.cons (.tup (.cons (.c (.str "same")) (.cons (.call F_law_wide (.cons (.v 1) (.cons (.op .sub (.v 7) (.c (.int 100))) (.cons (.c (.int 20)) .nil)))) (.cons (.call F_law_wide (.cons (.v 1) (.cons (.c (.int 97)) (.cons (.c (.int 20)) .nil)))) .nil)))) .nil))))
 (.cons (.iff [] [] (.or_ (.not_ (.call F_law_looked (.cons (.call F_law_wide (.cons (.v 1) (.cons (.v 7) (.cons (.c (.int 20)) .nil)))) .nil))) (.or_ (.not_ (.call F_law_looked (.cons (.tup (.cons (.c (.str "mul")) (.cons (.c (.int 3)) (.cons (.call F_law_wide (.cons (.v 1) (.cons (.op .sub (.v 7) (.c (.int 2))) (.cons (.c (.int 20)) .nil)))) .nil)))) .nil))) (.not_ (.call F_law_looked (.cons (.v 8) .nil)))))
 (.cons (.ret [] (.c (.bl false)))
 .nil)
 .nil)
 .nil)))
 (.cons (.for_ [] (.one 9) (.itm (.lst (.cons (.c (.int 29)) (.cons (.c (.int 30)) (.cons (.c (.int 31)) .nil)))))
 (.cons (.set [] [] (.one 4) (.tup (.cons (.c (.str "num")) (.cons (.c (.int 1)) .nil))))
 (.cons (.forR [] [] 2 .nop (.op .sub (.v 9) (.c (.int 1)))
 (.cons (.set [] [] (.one 10) (.lst (.cons (.tup (.cons (.c (.str "mul")) (.cons (.c (.int 2)) (.cons (.v 4) .nil)))) (.cons (.tup (.cons (.c (.str "add")) (.cons (.v 4) (.cons (.tup (.cons (.c (.str "name")) (.cons (.c (.str "x")) .nil))) .nil)))) (.cons (.tup (.cons (.c (.str "if")) (.cons (.tup (.cons (.c (.str "less")) (.cons (.tup (.cons (.c (.str "num")) (.cons (.c (.int 1)) .nil))) (.cons (.tup (.cons (.c (.str "num")) (.cons (.c (.int 2)) .nil))) .nil)))) (.cons (.v 4) (.cons (.tup (.cons (.c (.str "num")) (.cons (.c (.int 0)) .nil))) .nil))))) .nil)))))
 (.cons (.set [] [] (.one 4) (.call F_law_of (.cons (.v 1) (.cons (.op .add (.v 10) (.lst (.cons (.tup (.cons (.c (.str "let")) (.cons (.c (.str "y")) (.cons (.tup (.cons (.c (.str "num")) (.cons (.c (.int 0)) .nil))) (.cons (.v 4) .nil))))) (.cons (.tup (.cons (.c (.str "call")) (.cons (.c (.str "f")) (.cons (.tup (.cons (.v 4) .nil)) .nil)))) (.cons (.tup (.cons (.c (.str "times")) (.cons (.c (.int 64)) (.cons (.c (.str "x")) (.cons (.v 4) (.cons (.tup (.cons (.c (.str "num")) (.cons (.c (.int 0)) .nil))) .nil)))))) .nil))))) .nil))))
 .nil)))
 (.cons (.iff [] [] (.not_ (.call F_law_looked (.cons (.v 4) .nil)))
 (.cons (.ret [] (.c (.bl false)))
 .nil)
 .nil)
 .nil))))
 (.cons (.set [] [] (.one 11) (.lst (.cons (.tup (.cons (.c (.str "mul")) (.cons (.c (.int 64)) (.cons (.tup (.cons (.c (.str "num")) (.cons (.c (.int 1)) .nil))) .nil)))) (.cons (.tup (.cons (.c (.str "mul")) (.cons (.c (.int 65)) (.cons (.tup (.cons (.c (.str "num")) (.cons (.c (.int 1)) .nil))) .nil)))) (.cons (.tup (.cons (.c (.str "div")) (.cons (.tup (.cons (.c (.str "num")) (.cons (.c (.int 1)) .nil))) (.cons (.c (.int 0)) .nil)))) (.cons (.tup (.cons (.c (.str "div")) (.cons (.tup (.cons (.c (.str "num")) (.cons (.c (.int 1)) .nil))) (.cons (.c (.int 64)) .nil)))) (.cons (.tup (.cons (.c (.str "rest")) (.cons (.tup (.cons (.c (.str "num")) (.cons (.c (.int 1)) .nil))) (.cons (.c (.int 65)) .nil)))) .nil)))))))
 (.cons (.set [] [] (.one 11) (.op .add (.v 11) (.lst (.cons (.tup (.cons (.c (.str "times")) (.cons (.c (.int 65)) (.cons (.c (.str "x")) (.cons (.tup (.cons (.c (.str "num")) (.cons (.c (.int 1)) .nil))) (.cons (.tup (.cons (.c (.str "num")) (.cons (.c (.int 1)) .nil))) .nil)))))) (.cons (.tup (.cons (.c (.str "times")) (.cons (.c (.int 0)) (.cons (.c (.str "x")) (.cons (.tup (.cons (.c (.str "num")) (.cons (.c (.int 1)) .nil))) (.cons (.tup (.cons (.c (.str "num")) (.cons (.c (.int 1)) .nil))) .nil)))))) (.cons (.tup (.cons (.c (.str "call")) (.cons (.c (.str "f")) (.cons (.op .mul (.tup (.cons (.tup (.cons (.c (.str "num")) (.cons (.c (.int 1)) .nil))) .nil)) (.c (.int 4))) .nil)))) (.cons (.tup (.cons (.c (.str "call")) (.cons (.c (.str "f")) (.cons (.op .mul (.tup (.cons (.tup (.cons (.c (.str "num")) (.cons (.c (.int 1)) .nil))) .nil)) (.c (.int 5))) .nil)))) .nil)))))))
 (.cons (.set [] [] (.one 11) (.op .add (.v 11) (.lst (.cons (.tup (.cons (.c (.str "call")) (.cons (.c (.str "f")) (.cons (.lst (.cons (.tup (.cons (.c (.str "num")) (.cons (.c (.int 1)) .nil))) .nil)) .nil)))) (.cons (.tup (.cons (.c (.str "add")) (.cons (.tup (.cons (.c (.str "num")) (.cons (.c (.int 1)) .nil))) (.cons (.tup (.cons (.c (.str "less")) (.cons (.tup (.cons (.c (.str "num")) (.cons (.c (.int 1)) .nil))) (.cons (.tup (.cons (.c (.str "num")) (.cons (.c (.int 1)) .nil))) .nil)))) .nil)))) .nil)))))
 (.cons (.set [] [] (.one 11) (.op .add (.v 11) (.lst (.cons (.tup (.cons (.c (.str "not")) (.cons (.tup (.cons (.c (.str "num")) (.cons (.c (.int 1)) .nil))) .nil))) (.cons (.tup (.cons (.c (.str "both")) (.cons (.tup (.cons (.c (.str "num")) (.cons (.c (.int 1)) .nil))) (.cons (.tup (.cons (.c (.str "num")) (.cons (.c (.int 1)) .nil))) .nil)))) (.cons (.tup (.cons (.c (.str "if")) (.cons (.tup (.cons (.c (.str "num")) (.cons (.c (.int 1)) .nil))) (.cons (.tup (.cons (.c (.str "num")) (.cons (.c (.int 1)) .nil))) (.cons (.tup (.cons (.c (.str "num")) (.cons (.c (.int 1)) .nil))) .nil))))) (.cons (.tup (.cons (.c (.str "less")) (.cons (.tup (.cons (.c (.str "num")) (.cons (.c (.int 1)) .nil))) .nil))) (.cons (.tup (.cons (.c (.str "fail")) (.cons (.c (.str "x")) (.cons (.c (.str "y")) .nil)))) (.cons (.tup (.cons (.c (.str "fail")) (.cons (.c (.int 3)) .nil))) .nil)))))))))
 (.cons (.set [] [] (.one 11) (.op .add (.v 11) (.lst (.cons (.tup (.cons (.c (.str "num")) (.cons (.c (.int 1000000)) .nil))) (.cons (.tup (.cons (.c (.str "num")) (.cons (.c (.int 1000001)) .nil))) (.cons (.tup (.cons (.c (.str "mul")) (.cons (.c (.bl true)) (.cons (.tup (.cons (.c (.str "num")) (.cons (.c (.int 1)) .nil))) .nil)))) (.cons (.tup (.cons (.c (.str "let")) (.cons (.c (.str "let")) (.cons (.tup (.cons (.c (.str "num")) (.cons (.c (.int 1)) .nil))) (.cons (.tup (.cons (.c (.str "num")) (.cons (.c (.int 1)) .nil))) .nil))))) .nil)))))))
 (.cons (.ret [] (.cm .eq (.comp (.one 12) (.itm (.v 11)) (.not_ (.call F_law_looked (.cons (.v 12) .nil))) (.v 12) [12]) (.lst .nil)))
 .nil))))))))))
abbrev nlaw : FnD := ⟨1, 13, blaw⟩
class Cis_name (tb : List (Nat × Rn)) : Prop where
  own : lkN tb Fis_name = some (.df nis_name)
class Cis_integer (tb : List (Nat × Rn)) : Prop where
  own : lkN tb Fis_integer = some (.df nis_integer)
class Cis_index (tb : List (Nat × Rn)) : Prop where
  own : lkN tb Fis_index = some (.df nis_index)
  uis_integer : Cis_integer tb
instance (priority := low) {tb : List (Nat × Rn)} [c : Cis_index tb] : Cis_integer tb := c.uis_integer
class Cis_row_of (tb : List (Nat × Rn)) : Prop where
  own : lkN tb Fis_row_of = some (.df nis_row_of)
  uis_index : Cis_index tb
instance (priority := low) {tb : List (Nat × Rn)} [c : Cis_row_of tb] : Cis_index tb := c.uis_index
class Cis_set_form (tb : List (Nat × Rn)) : Prop where
  own : lkN tb Fis_set_form = some (.df nis_set_form)
  uis_index : Cis_index tb
  uis_row_of : Cis_row_of tb
instance (priority := low) {tb : List (Nat × Rn)} [c : Cis_set_form tb] : Cis_index tb := c.uis_index
instance (priority := low) {tb : List (Nat × Rn)} [c : Cis_set_form tb] : Cis_row_of tb := c.uis_row_of
class Cis_sign (tb : List (Nat × Rn)) : Prop where
  own : lkN tb Fis_sign = some (.df nis_sign)
  uis_index : Cis_index tb
  uis_name : Cis_name tb
  uis_set_form : Cis_set_form tb
instance (priority := low) {tb : List (Nat × Rn)} [c : Cis_sign tb] : Cis_index tb := c.uis_index
instance (priority := low) {tb : List (Nat × Rn)} [c : Cis_sign tb] : Cis_name tb := c.uis_name
instance (priority := low) {tb : List (Nat × Rn)} [c : Cis_sign tb] : Cis_set_form tb := c.uis_set_form
class Cis_part_head (tb : List (Nat × Rn)) : Prop where
  own : lkN tb Fis_part_head = some (.df nis_part_head)
  uis_sign : Cis_sign tb
instance (priority := low) {tb : List (Nat × Rn)} [c : Cis_part_head tb] : Cis_sign tb := c.uis_sign
class Cinner_parts (tb : List (Nat × Rn)) : Prop where
  own : lkN tb Finner_parts = some (.df ninner_parts)
class Cis_part (tb : List (Nat × Rn)) : Prop where
  own : lkN tb Fis_part = some (.df nis_part)
  uinner_parts : Cinner_parts tb
  uis_part_head : Cis_part_head tb
instance (priority := low) {tb : List (Nat × Rn)} [c : Cis_part tb] : Cinner_parts tb := c.uinner_parts
instance (priority := low) {tb : List (Nat × Rn)} [c : Cis_part tb] : Cis_part_head tb := c.uis_part_head
class Cis_expression (tb : List (Nat × Rn)) : Prop where
  own : lkN tb Fis_expression = some (.df nis_expression)
  uis_part : Cis_part tb
instance (priority := low) {tb : List (Nat × Rn)} [c : Cis_expression tb] : Cis_part tb := c.uis_part
class Cis_test (tb : List (Nat × Rn)) : Prop where
  own : lkN tb Fis_test = some (.df nis_test)
  uis_part : Cis_part tb
instance (priority := low) {tb : List (Nat × Rn)} [c : Cis_test tb] : Cis_part tb := c.uis_part
class C_law_draw (tb : List (Nat × Rn)) : Prop where
  own : lkN tb F_law_draw = some (.df n_law_draw)
class C_law_of (tb : List (Nat × Rn)) : Prop where
  own : lkN tb F_law_of = some (.df n_law_of)
  u_law_any : C_law_any tb
instance (priority := low) {tb : List (Nat × Rn)} [c : C_law_of tb] : C_law_any tb := c.u_law_any
class C_law_mixed (tb : List (Nat × Rn)) : Prop where
  own : lkN tb F_law_mixed = some (.df n_law_mixed)
  u_law_any : C_law_any tb
instance (priority := low) {tb : List (Nat × Rn)} [c : C_law_mixed tb] : C_law_any tb := c.u_law_any
class C_law_same (tb : List (Nat × Rn)) : Prop where
  own : lkN tb F_law_same = some (.df n_law_same)
class C_law_is_int (tb : List (Nat × Rn)) : Prop where
  own : lkN tb F_law_is_int = some (.df n_law_is_int)
class C_law_words (tb : List (Nat × Rn)) : Prop where
  own : lkN tb F_law_words = some (.df n_law_words)
class C_law_is_name (tb : List (Nat × Rn)) : Prop where
  own : lkN tb F_law_is_name = some (.df n_law_is_name)
  u_law_words : C_law_words tb
instance (priority := low) {tb : List (Nat × Rn)} [c : C_law_is_name tb] : C_law_words tb := c.u_law_words
class C_law_forms (tb : List (Nat × Rn)) : Prop where
  own : lkN tb F_law_forms = some (.df n_law_forms)
class C_law_is_check (tb : List (Nat × Rn)) : Prop where
  own : lkN tb F_law_is_check = some (.df n_law_is_check)
class C_law_some_set (tb : List (Nat × Rn)) : Prop where
  own : lkN tb F_law_some_set = some (.df n_law_some_set)
  u_law_any : C_law_any tb
  u_law_of : C_law_of tb
instance (priority := low) {tb : List (Nat × Rn)} [c : C_law_some_set tb] : C_law_any tb := c.u_law_any
instance (priority := low) {tb : List (Nat × Rn)} [c : C_law_some_set tb] : C_law_of tb := c.u_law_of
class C_law_some_part (tb : List (Nat × Rn)) : Prop where
  own : lkN tb F_law_some_part = some (.df n_law_some_part)
  u_law_any : C_law_any tb
  u_law_forms : C_law_forms tb
  u_law_of : C_law_of tb
  u_law_some_set : C_law_some_set tb
instance (priority := low) {tb : List (Nat × Rn)} [c : C_law_some_part tb] : C_law_any tb := c.u_law_any
instance (priority := low) {tb : List (Nat × Rn)} [c : C_law_some_part tb] : C_law_forms tb := c.u_law_forms
instance (priority := low) {tb : List (Nat × Rn)} [c : C_law_some_part tb] : C_law_of tb := c.u_law_of
instance (priority := low) {tb : List (Nat × Rn)} [c : C_law_some_part tb] : C_law_some_set tb := c.u_law_some_set
class C_law_is_row (tb : List (Nat × Rn)) : Prop where
  own : lkN tb F_law_is_row = some (.df n_law_is_row)
  u_law_is_int : C_law_is_int tb
instance (priority := low) {tb : List (Nat × Rn)} [c : C_law_is_row tb] : C_law_is_int tb := c.u_law_is_int
class C_law_is_form (tb : List (Nat × Rn)) : Prop where
  own : lkN tb F_law_is_form = some (.df n_law_is_form)
  u_law_is_int : C_law_is_int tb
  u_law_is_row : C_law_is_row tb
instance (priority := low) {tb : List (Nat × Rn)} [c : C_law_is_form tb] : C_law_is_int tb := c.u_law_is_int
instance (priority := low) {tb : List (Nat × Rn)} [c : C_law_is_form tb] : C_law_is_row tb := c.u_law_is_row
class C_law_fits (tb : List (Nat × Rn)) : Prop where
  own : lkN tb F_law_fits = some (.df n_law_fits)
  u_law_is_form : C_law_is_form tb
  u_law_is_int : C_law_is_int tb
  u_law_is_name : C_law_is_name tb
instance (priority := low) {tb : List (Nat × Rn)} [c : C_law_fits tb] : C_law_is_form tb := c.u_law_is_form
instance (priority := low) {tb : List (Nat × Rn)} [c : C_law_fits tb] : C_law_is_int tb := c.u_law_is_int
instance (priority := low) {tb : List (Nat × Rn)} [c : C_law_fits tb] : C_law_is_name tb := c.u_law_is_name
class C_law_is_part (tb : List (Nat × Rn)) : Prop where
  own : lkN tb F_law_is_part = some (.df n_law_is_part)
  u_law_fits : C_law_fits tb
  u_law_forms : C_law_forms tb
  u_law_is_check : C_law_is_check tb
instance (priority := low) {tb : List (Nat × Rn)} [c : C_law_is_part tb] : C_law_fits tb := c.u_law_fits
instance (priority := low) {tb : List (Nat × Rn)} [c : C_law_is_part tb] : C_law_forms tb := c.u_law_forms
instance (priority := low) {tb : List (Nat × Rn)} [c : C_law_is_part tb] : C_law_is_check tb := c.u_law_is_check
class C_law_near_value (tb : List (Nat × Rn)) : Prop where
  own : lkN tb F_law_near_value = some (.df n_law_near_value)
  u_law_any : C_law_any tb
  u_law_of : C_law_of tb
instance (priority := low) {tb : List (Nat × Rn)} [c : C_law_near_value tb] : C_law_any tb := c.u_law_any
instance (priority := low) {tb : List (Nat × Rn)} [c : C_law_near_value tb] : C_law_of tb := c.u_law_of
class C_law_wide (tb : List (Nat × Rn)) : Prop where
  own : lkN tb F_law_wide = some (.df n_law_wide)
  u_law_of : C_law_of tb
instance (priority := low) {tb : List (Nat × Rn)} [c : C_law_wide tb] : C_law_of tb := c.u_law_of
class C_law_looked (tb : List (Nat × Rn)) : Prop where
  own : lkN tb F_law_looked = some (.df n_law_looked)
  u_law_is_part : C_law_is_part tb
  u_law_same : C_law_same tb
  uis_expression : Cis_expression tb
  uis_test : Cis_test tb
instance (priority := low) {tb : List (Nat × Rn)} [c : C_law_looked tb] : C_law_is_part tb := c.u_law_is_part
instance (priority := low) {tb : List (Nat × Rn)} [c : C_law_looked tb] : C_law_same tb := c.u_law_same
instance (priority := low) {tb : List (Nat × Rn)} [c : C_law_looked tb] : Cis_expression tb := c.uis_expression
instance (priority := low) {tb : List (Nat × Rn)} [c : C_law_looked tb] : Cis_test tb := c.uis_test
class C_law_near_form (tb : List (Nat × Rn)) : Prop where
  own : lkN tb F_law_near_form = some (.df n_law_near_form)
  u_law_any : C_law_any tb
  u_law_of : C_law_of tb
instance (priority := low) {tb : List (Nat × Rn)} [c : C_law_near_form tb] : C_law_any tb := c.u_law_any
instance (priority := low) {tb : List (Nat × Rn)} [c : C_law_near_form tb] : C_law_of tb := c.u_law_of
class Claw (tb : List (Nat × Rn)) : Prop where
  own : lkN tb Flaw = some (.df nlaw)
  u_law_any : C_law_any tb
  u_law_draw : C_law_draw tb
  u_law_is_form : C_law_is_form tb
  u_law_looked : C_law_looked tb
  u_law_mixed : C_law_mixed tb
  u_law_near_form : C_law_near_form tb
  u_law_near_value : C_law_near_value tb
  u_law_of : C_law_of tb
  u_law_same : C_law_same tb
  u_law_some_part : C_law_some_part tb
  u_law_wide : C_law_wide tb
  uis_set_form : Cis_set_form tb
instance (priority := low) {tb : List (Nat × Rn)} [c : Claw tb] : C_law_any tb := c.u_law_any
instance (priority := low) {tb : List (Nat × Rn)} [c : Claw tb] : C_law_draw tb := c.u_law_draw
instance (priority := low) {tb : List (Nat × Rn)} [c : Claw tb] : C_law_is_form tb := c.u_law_is_form
instance (priority := low) {tb : List (Nat × Rn)} [c : Claw tb] : C_law_looked tb := c.u_law_looked
instance (priority := low) {tb : List (Nat × Rn)} [c : Claw tb] : C_law_mixed tb := c.u_law_mixed
instance (priority := low) {tb : List (Nat × Rn)} [c : Claw tb] : C_law_near_form tb := c.u_law_near_form
instance (priority := low) {tb : List (Nat × Rn)} [c : Claw tb] : C_law_near_value tb := c.u_law_near_value
instance (priority := low) {tb : List (Nat × Rn)} [c : Claw tb] : C_law_of tb := c.u_law_of
instance (priority := low) {tb : List (Nat × Rn)} [c : Claw tb] : C_law_same tb := c.u_law_same
instance (priority := low) {tb : List (Nat × Rn)} [c : Claw tb] : C_law_some_part tb := c.u_law_some_part
instance (priority := low) {tb : List (Nat × Rn)} [c : Claw tb] : C_law_wide tb := c.u_law_wide
instance (priority := low) {tb : List (Nat × Rn)} [c : Claw tb] : Cis_set_form tb := c.uis_set_form
end LL
/-! == K_k01a == -/
set_option Elab.async false
set_option linter.all false
set_option maxRecDepth 1000000
set_option maxHeartbeats 4000000
namespace K_k01
open PySem PySem.Spec PyProof.Rows L2 LL
/-! ### the text -/
def topS (i : Nat) : Stmt := PySem.Challenge.pw_justwhere_k01_whole_expressions_and_test.main.body.getD i (.Pass ⟨0, 0, 0, 0⟩)
def T : Tab := ⟨[(Fis_name, ⟨"is_name", ["value"], false, false⟩),
  (Fis_integer, ⟨"is_integer", ["value"], false, false⟩),
  (Fis_index, ⟨"is_index", ["value", "many"], false, false⟩),
  (Fis_row_of, ⟨"is_row_of", ["value", "many", "bound"], false, false⟩),
  (Fis_set_form, ⟨"is_set_form", ["value"], false, true⟩),
  (Fis_sign, ⟨"is_sign", ["sign", "value"], false, false⟩),
  (Fis_part_head, ⟨"is_part_head", ["value", "kind"], false, false⟩),
  (Finner_parts, ⟨"inner_parts", ["part"], false, false⟩),
  (Fis_part, ⟨"is_part", ["value", "kind"], false, false⟩),
  (Fis_expression, ⟨"is_expression", ["value"], false, true⟩),
  (Fis_test, ⟨"is_test", ["value"], false, true⟩),
  (F_law_draw, ⟨"_law_draw", ["script", "salt"], false, false⟩),
  (F_law_any, ⟨"_law_any", ["deal", "bound"], false, false⟩),
  (F_law_of, ⟨"_law_of", ["deal", "some"], false, false⟩),
  (F_law_mixed, ⟨"_law_mixed", ["deal", "some"], false, false⟩),
  (F_law_same, ⟨"_law_same", ["value", "due"], false, false⟩),
  (F_law_is_int, ⟨"_law_is_int", ["value"], false, false⟩),
  (F_law_words, ⟨"_law_words", [], false, false⟩),
  (F_law_is_name, ⟨"_law_is_name", ["value"], false, false⟩),
  (F_law_forms, ⟨"_law_forms", [], false, false⟩),
  (F_law_is_check, ⟨"_law_is_check", ["part"], false, false⟩),
  (F_law_some_set, ⟨"_law_some_set", ["deal", "many"], false, false⟩),
  (F_law_some_part, ⟨"_law_some_part", ["deal", "kind", "names", "heads", "deep"], false, false⟩),
  (F_law_is_row, ⟨"_law_is_row", ["value", "many", "bound"], false, false⟩),
  (F_law_is_form, ⟨"_law_is_form", ["value"], false, false⟩),
  (F_law_fits, ⟨"_law_fits", ["sign", "one"], false, false⟩),
  (F_law_is_part, ⟨"_law_is_part", ["value", "kind"], false, false⟩),
  (F_law_near_value, ⟨"_law_near_value", ["deal", "value"], false, false⟩),
  (F_law_wide, ⟨"_law_wide", ["deal", "many", "deep"], false, false⟩),
  (F_law_looked, ⟨"_law_looked", ["value"], false, false⟩),
  (F_law_near_form, ⟨"_law_near_form", ["deal"], false, false⟩),
  (Flaw, ⟨"law", ["script"], false, false⟩)],
 [("DIGITS", .str "0123456789"),
  ("LETTERS", .str "abcdefghijklmnopqrstuvwxyz"),
  ("MOST_SIGNS", .int 12),
  ("WORDS", .tup [.str "num", .str "name", .str "add", .str "sub", .str "mul", .str "div", .str "rest", .str "if", .str "let", .str "call", .str "times", .str "fail", .str "less", .str "same", .str "not", .str "both", .str "either", .str "in", .str "fun", .str "edition", .str "set", .str "change", .str "table", .str "piece", .str "history", .str "wish", .str "code", .str "proc", .str "then", .str "else", .str "end", .str "as", .str "do", .str "at", .str "to", .str "by", .str "of", .str "from", .str "all", .str "some", .str "told", .str "failed", .str "is", .str "where", .str "move", .str "jump", .str "loop", .str "back", .str "rows", .str "slots", .str "entry", .str "log", .str "with", .str "yes", .str "no", .str "or"]),
  ("MOST_HANDED", .int 4),
  ("MOST_PLACES", .int 1000),
  ("WIDTHS", .tup [.int 1, .int 2, .int 4, .int 8, .int 16]),
  ("MOST_FACTOR", .int 64),
  ("MOST_NUMBER", .int 1000000),
  ("FORMS", .dct ["num", "name", "add", "sub", "mul", "div", "rest", "if", "let", "call", "times", "fail", "less", "same", "not", "both", "either", "in"] [.str "n", .str "x", .str "ee", .str "ee", .str "fe", .str "eg", .str "eg", .str "tee", .str "xee", .str "xE", .str "fxee", .str "x", .str "ee", .str "ee", .str "t", .str "tt", .str "tt", .str "sE"]),
  ("TESTS", .tup [.str "less", .str "same", .str "not", .str "both", .str "either", .str "in"]),
  ("MOST_PARTS", .int 200),
  ("MOST_WITHIN", .int 30)],
 ["abs", "all", "bool", "int", "isinstance", "len", "list", "min", "range", "str", "tuple", "zip"]⟩
def dis_name : Df := ⟨topS 5, ⟨"is_name", ["value"], false, false⟩, ["value", "sign"], nis_name⟩
def dis_integer : Df := ⟨topS 7, ⟨"is_integer", ["value"], false, false⟩, ["value"], nis_integer⟩
def dis_index : Df := ⟨topS 8, ⟨"is_index", ["value", "many"], false, false⟩, ["value", "many"], nis_index⟩
def dis_row_of : Df := ⟨topS 19, ⟨"is_row_of", ["value", "many", "bound"], false, false⟩, ["value", "many", "bound", "one"], nis_row_of⟩
def dis_set_form : Df := ⟨topS 20, ⟨"is_set_form", ["value"], false, true⟩, ["value", "word", "many", "marks", "rows", "row"], nis_set_form⟩
def dis_sign : Df := ⟨topS 21, ⟨"is_sign", ["sign", "value"], false, false⟩, ["sign", "value"], nis_sign⟩
def dis_part_head : Df := ⟨topS 22, ⟨"is_part_head", ["value", "kind"], false, false⟩, ["value", "kind", "signs", "sign", "one"], nis_part_head⟩
def dinner_parts : Df := ⟨topS 23, ⟨"inner_parts", ["part"], false, false⟩, ["part", "found", "sign", "one", "inner"], ninner_parts⟩
def dis_part : Df := ⟨topS 24, ⟨"is_part", ["value", "kind"], false, false⟩, ["value", "kind", "waiting", "many", "one", "own", "deep", "inner", "sign"], nis_part⟩
def dis_expression : Df := ⟨topS 25, ⟨"is_expression", ["value"], false, true⟩, ["value"], nis_expression⟩
def dis_test : Df := ⟨topS 26, ⟨"is_test", ["value"], false, true⟩, ["value"], nis_test⟩
def d_law_draw : Df := ⟨topS 28, ⟨"_law_draw", ["script", "salt"], false, false⟩, ["script", "salt", "cells", "cell", "blend"], n_law_draw⟩
def d_law_of : Df := ⟨topS 30, ⟨"_law_of", ["deal", "some"], false, false⟩, ["deal", "some"], n_law_of⟩
def d_law_mixed : Df := ⟨topS 31, ⟨"_law_mixed", ["deal", "some"], false, false⟩, ["deal", "some", "left", "found"], n_law_mixed⟩
def d_law_same : Df := ⟨topS 32, ⟨"_law_same", ["value", "due"], false, false⟩, ["value", "due", "one", "other"], n_law_same⟩
def d_law_is_int : Df := ⟨topS 33, ⟨"_law_is_int", ["value"], false, false⟩, ["value"], n_law_is_int⟩
def d_law_words : Df := ⟨topS 34, ⟨"_law_words", [], false, false⟩, ["words"], n_law_words⟩
def d_law_is_name : Df := ⟨topS 35, ⟨"_law_is_name", ["value"], false, false⟩, ["value", "sign"], n_law_is_name⟩
def d_law_forms : Df := ⟨topS 36, ⟨"_law_forms", [], false, false⟩, [], n_law_forms⟩
def d_law_is_check : Df := ⟨topS 37, ⟨"_law_is_check", ["part"], false, false⟩, ["part"], n_law_is_check⟩
def d_law_some_set : Df := ⟨topS 38, ⟨"_law_some_set", ["deal", "many"], false, false⟩, ["deal", "many"], n_law_some_set⟩
def d_law_some_part : Df := ⟨topS 39, ⟨"_law_some_part", ["deal", "kind", "names", "heads", "deep"], false, false⟩, ["deal", "kind", "names", "heads", "deep", "word", "many", "place", "signs", "sign", "number", "name", "first", "second", "one"], n_law_some_part⟩
def d_law_is_row : Df := ⟨topS 40, ⟨"_law_is_row", ["value", "many", "bound"], false, false⟩, ["value", "many", "bound", "one"], n_law_is_row⟩
def d_law_is_form : Df := ⟨topS 41, ⟨"_law_is_form", ["value"], false, false⟩, ["value", "row"], n_law_is_form⟩
def d_law_fits : Df := ⟨topS 42, ⟨"_law_fits", ["sign", "one"], false, false⟩, ["sign", "one"], n_law_fits⟩
def d_law_is_part : Df := ⟨topS 43, ⟨"_law_is_part", ["value", "kind"], false, false⟩, ["value", "kind", "waiting", "many", "forms", "turn", "one", "own", "deep", "sign", "some", "inner"], n_law_is_part⟩
def d_law_near_value : Df := ⟨topS 44, ⟨"_law_near_value", ["deal", "value"], false, false⟩, ["deal", "value", "odd", "at"], n_law_near_value⟩
def d_law_wide : Df := ⟨topS 45, ⟨"_law_wide", ["deal", "many", "deep"], false, false⟩, ["deal", "many", "deep", "some", "turn"], n_law_wide⟩
def d_law_looked : Df := ⟨topS 46, ⟨"_law_looked", ["value"], false, false⟩, ["value"], n_law_looked⟩
def d_law_near_form : Df := ⟨topS 47, ⟨"_law_near_form", ["deal"], false, false⟩, ["deal", "many", "k", "width", "some", "at", "letter", "bads"], n_law_near_form⟩
def dlaw : Df := ⟨topS 48, ⟨"law", ["script"], false, false⟩, ["script", "deal", "turn", "names", "part", "near", "form", "many", "test", "deep", "some", "bads", "one"], nlaw⟩
theorem ok_is_name : dis_name.ok T = true := by decide +kernel
theorem ok_is_integer : dis_integer.ok T = true := by decide +kernel
theorem ok_is_index : dis_index.ok T = true := by decide +kernel
theorem ok_is_row_of : dis_row_of.ok T = true := by decide +kernel
theorem ok_is_set_form : dis_set_form.ok T = true := by decide +kernel
theorem ok_is_sign : dis_sign.ok T = true := by decide +kernel
theorem ok_is_part_head : dis_part_head.ok T = true := by decide +kernel
theorem ok_inner_parts : dinner_parts.ok T = true := by decide +kernel
theorem ok_is_part : dis_part.ok T = true := by decide +kernel
theorem ok_is_expression : dis_expression.ok T = true := by decide +kernel
theorem ok_is_test : dis_test.ok T = true := by decide +kernel
theorem ok__law_draw : d_law_draw.ok T = true := by decide +kernel
theorem ok__law_of : d_law_of.ok T = true := by decide +kernel
theorem ok__law_mixed : d_law_mixed.ok T = true := by decide +kernel
theorem ok__law_same : d_law_same.ok T = true := by decide +kernel
theorem ok__law_is_int : d_law_is_int.ok T = true := by decide +kernel
theorem ok__law_words : d_law_words.ok T = true := by decide +kernel
theorem ok__law_is_name : d_law_is_name.ok T = true := by decide +kernel
theorem ok__law_forms : d_law_forms.ok T = true := by decide +kernel
theorem ok__law_is_check : d_law_is_check.ok T = true := by decide +kernel
theorem ok__law_some_set : d_law_some_set.ok T = true := by decide +kernel
theorem ok__law_some_part : d_law_some_part.ok T = true := by decide +kernel
theorem ok__law_is_row : d_law_is_row.ok T = true := by decide +kernel
theorem ok__law_is_form : d_law_is_form.ok T = true := by decide +kernel
theorem ok__law_fits : d_law_fits.ok T = true := by decide +kernel
theorem ok__law_is_part : d_law_is_part.ok T = true := by decide +kernel
theorem ok__law_near_value : d_law_near_value.ok T = true := by decide +kernel
theorem ok__law_wide : d_law_wide.ok T = true := by decide +kernel
theorem ok__law_looked : d_law_looked.ok T = true := by decide +kernel
theorem ok__law_near_form : d_law_near_form.ok T = true := by decide +kernel
theorem ok_law : dlaw.ok T = true := by decide +kernel
def qAny : List Pos := [⟨84, 10, 84, 14⟩, ⟨84, 15, 84, 16⟩, ⟨84, 10, 84, 17⟩, ⟨84, 21, 84, 23⟩, ⟨84, 10, 84, 23⟩, ⟨84, 28, 84, 32⟩, ⟨84, 33, 84, 34⟩, ⟨84, 28, 84, 35⟩, ⟨84, 37, 84, 38⟩, ⟨84, 36, 84, 38⟩, ⟨84, 28, 84, 39⟩, ⟨84, 43, 84, 44⟩, ⟨84, 28, 84, 44⟩, ⟨84, 10, 84, 44⟩, ⟨85, 8, 85, 12⟩, ⟨85, 13, 85, 14⟩, ⟨85, 8, 85, 15⟩, ⟨85, 8, 85, 19⟩, ⟨85, 8, 85, 21⟩, ⟨85, 8, 85, 21⟩, ⟨84, 4, 85, 21⟩, ⟨86, 7, 86, 11⟩, ⟨86, 12, 86, 13⟩, ⟨86, 7, 86, 14⟩, ⟨86, 18, 86, 20⟩, ⟨86, 7, 86, 20⟩, ⟨87, 8, 87, 12⟩, ⟨87, 15, 87, 18⟩, ⟨87, 19, 87, 23⟩, ⟨87, 24, 87, 25⟩, ⟨87, 19, 87, 26⟩, ⟨87, 19, 87, 30⟩, ⟨87, 19, 87, 32⟩, ⟨87, 15, 87, 33⟩, ⟨87, 8, 87, 33⟩, ⟨88, 8, 88, 12⟩, ⟨88, 13, 88, 14⟩, ⟨88, 8, 88, 15⟩, ⟨88, 8, 88, 22⟩, ⟨88, 23, 88, 27⟩, ⟨88, 31, 88, 36⟩, ⟨88, 23, 88, 36⟩, ⟨88, 8, 88, 37⟩, ⟨88, 8, 88, 37⟩, ⟨89, 15, 89, 18⟩, ⟨89, 19, 89, 23⟩, ⟨89, 15, 89, 24⟩, ⟨89, 27, 89, 32⟩, ⟨89, 15, 89, 32⟩, ⟨89, 8, 89, 32⟩, ⟨86, 4, 89, 32⟩, ⟨90, 4, 90, 8⟩, ⟨90, 9, 90, 10⟩, ⟨90, 4, 90, 11⟩, ⟨90, 14, 90, 17⟩, ⟨90, 18, 90, 22⟩, ⟨90, 23, 90, 24⟩, ⟨90, 18, 90, 25⟩, ⟨90, 28, 90, 33⟩, ⟨90, 18, 90, 33⟩, ⟨90, 36, 90, 38⟩, ⟨90, 18, 90, 38⟩, ⟨90, 14, 90, 39⟩, ⟨90, 42, 90, 52⟩, ⟨90, 14, 90, 52⟩, ⟨90, 4, 90, 52⟩, ⟨91, 11, 91, 14⟩, ⟨91, 15, 91, 19⟩, ⟨91, 20, 91, 21⟩, ⟨91, 15, 91, 22⟩, ⟨91, 26, 91, 28⟩, ⟨91, 15, 91, 28⟩, ⟨91, 11, 91, 29⟩, ⟨91, 32, 91, 37⟩, ⟨91, 11, 91, 37⟩, ⟨91, 4, 91, 37⟩]
def L : Law := ⟨[(Fis_name, .df dis_name), (Fis_integer, .df dis_integer), (Fis_index, .df dis_index), (Fis_row_of, .df dis_row_of), (Fis_set_form, .df dis_set_form), (Fis_sign, .df dis_sign), (Fis_part_head, .df dis_part_head), (Finner_parts, .df dinner_parts), (Fis_part, .df dis_part), (Fis_expression, .df dis_expression), (Fis_test, .df dis_test), (F_law_draw, .df d_law_draw), (F_law_any, .any (topS 29) qAny), (F_law_of, .df d_law_of), (F_law_mixed, .df d_law_mixed), (F_law_same, .df d_law_same), (F_law_is_int, .df d_law_is_int), (F_law_words, .df d_law_words), (F_law_is_name, .df d_law_is_name), (F_law_forms, .df d_law_forms), (F_law_is_check, .df d_law_is_check), (F_law_some_set, .df d_law_some_set), (F_law_some_part, .df d_law_some_part), (F_law_is_row, .df d_law_is_row), (F_law_is_form, .df d_law_is_form), (F_law_fits, .df d_law_fits), (F_law_is_part, .df d_law_is_part), (F_law_near_value, .df d_law_near_value), (F_law_wide, .df d_law_wide), (F_law_looked, .df d_law_looked), (F_law_near_form, .df d_law_near_form), (Flaw, .df dlaw)], T.globs, T.free⟩
def tb : List (Nat × Rn) := [(Fis_name, .df nis_name), (Fis_integer, .df nis_integer), (Fis_index, .df nis_index), (Fis_row_of, .df nis_row_of), (Fis_set_form, .df nis_set_form), (Fis_sign, .df nis_sign), (Fis_part_head, .df nis_part_head), (Finner_parts, .df ninner_parts), (Fis_part, .df nis_part), (Fis_expression, .df nis_expression), (Fis_test, .df nis_test), (F_law_draw, .df n_law_draw), (F_law_any, .any), (F_law_of, .df n_law_of), (F_law_mixed, .df n_law_mixed), (F_law_same, .df n_law_same), (F_law_is_int, .df n_law_is_int), (F_law_words, .df n_law_words), (F_law_is_name, .df n_law_is_name), (F_law_forms, .df n_law_forms), (F_law_is_check, .df n_law_is_check), (F_law_some_set, .df n_law_some_set), (F_law_some_part, .df n_law_some_part), (F_law_is_row, .df n_law_is_row), (F_law_is_form, .df n_law_is_form), (F_law_fits, .df n_law_fits), (F_law_is_part, .df n_law_is_part), (F_law_near_value, .df n_law_near_value), (F_law_wide, .df n_law_wide), (F_law_looked, .df n_law_looked), (F_law_near_form, .df n_law_near_form), (Flaw, .df nlaw)]
theorem tab_eq : L.tab = T := rfl
theorem tb_eq : L.tb = tb := rfl
theorem any_okL : (En.any (topS 29) qAny).ok T := ⟨by rfl, by decide +kernel, ⟨rfl, rfl, rfl, by decide +kernel, rfl, by decide +kernel, by decide +kernel⟩, by decide +kernel⟩
theorem oks : ∀ e ∈ L.es, e.2.ok L.tab := (all_cons (show En.ok T (.df dis_name) from ok_is_name)
 (all_cons (show En.ok T (.df dis_integer) from ok_is_integer)
 (all_cons (show En.ok T (.df dis_index) from ok_is_index)
 (all_cons (show En.ok T (.df dis_row_of) from ok_is_row_of)
 (all_cons (show En.ok T (.df dis_set_form) from ok_is_set_form)
 (all_cons (show En.ok T (.df dis_sign) from ok_is_sign)
 (all_cons (show En.ok T (.df dis_part_head) from ok_is_part_head)
 (all_cons (show En.ok T (.df dinner_parts) from ok_inner_parts)
 (all_cons (show En.ok T (.df dis_part) from ok_is_part)
 (all_cons (show En.ok T (.df dis_expression) from ok_is_expression)
 (all_cons (show En.ok T (.df dis_test) from ok_is_test)
 (all_cons (show En.ok T (.df d_law_draw) from ok__law_draw)
 (all_cons any_okL
 (all_cons (show En.ok T (.df d_law_of) from ok__law_of)
 (all_cons (show En.ok T (.df d_law_mixed) from ok__law_mixed)
 (all_cons (show En.ok T (.df d_law_same) from ok__law_same)
 (all_cons (show En.ok T (.df d_law_is_int) from ok__law_is_int)
 (all_cons (show En.ok T (.df d_law_words) from ok__law_words)
 (all_cons (show En.ok T (.df d_law_is_name) from ok__law_is_name)
 (all_cons (show En.ok T (.df d_law_forms) from ok__law_forms)
 (all_cons (show En.ok T (.df d_law_is_check) from ok__law_is_check)
 (all_cons (show En.ok T (.df d_law_some_set) from ok__law_some_set)
 (all_cons (show En.ok T (.df d_law_some_part) from ok__law_some_part)
 (all_cons (show En.ok T (.df d_law_is_row) from ok__law_is_row)
 (all_cons (show En.ok T (.df d_law_is_form) from ok__law_is_form)
 (all_cons (show En.ok T (.df d_law_fits) from ok__law_fits)
 (all_cons (show En.ok T (.df d_law_is_part) from ok__law_is_part)
 (all_cons (show En.ok T (.df d_law_near_value) from ok__law_near_value)
 (all_cons (show En.ok T (.df d_law_wide) from ok__law_wide)
 (all_cons (show En.ok T (.df d_law_looked) from ok__law_looked)
 (all_cons (show En.ok T (.df d_law_near_form) from ok__law_near_form)
 (all_cons (show En.ok T (.df dlaw) from ok_law)
 all_nil))))))))))))))))))))))))))))))))
instance : Cis_name tb := ⟨rfl⟩
instance : Cis_integer tb := ⟨rfl⟩
instance : Cis_index tb := ⟨rfl, inferInstance⟩
instance : Cis_row_of tb := ⟨rfl, inferInstance⟩
instance : Cis_set_form tb := ⟨rfl, inferInstance, inferInstance⟩
instance : Cis_sign tb := ⟨rfl, inferInstance, inferInstance, inferInstance⟩
instance : Cis_part_head tb := ⟨rfl, inferInstance⟩
instance : Cinner_parts tb := ⟨rfl⟩
instance : Cis_part tb := ⟨rfl, inferInstance, inferInstance⟩
instance : Cis_expression tb := ⟨rfl, inferInstance⟩
instance : Cis_test tb := ⟨rfl, inferInstance⟩
instance : C_law_draw tb := ⟨rfl⟩
instance : C_law_any tb := ⟨rfl⟩
instance : C_law_of tb := ⟨rfl, inferInstance⟩
instance : C_law_mixed tb := ⟨rfl, inferInstance⟩
instance : C_law_same tb := ⟨rfl⟩
instance : C_law_is_int tb := ⟨rfl⟩
instance : C_law_words tb := ⟨rfl⟩
instance : C_law_is_name tb := ⟨rfl, inferInstance⟩
instance : C_law_forms tb := ⟨rfl⟩
instance : C_law_is_check tb := ⟨rfl⟩
instance : C_law_some_set tb := ⟨rfl, inferInstance, inferInstance⟩
instance : C_law_some_part tb := ⟨rfl, inferInstance, inferInstance, inferInstance, inferInstance⟩
instance : C_law_is_row tb := ⟨rfl, inferInstance⟩
instance : C_law_is_form tb := ⟨rfl, inferInstance, inferInstance⟩
instance : C_law_fits tb := ⟨rfl, inferInstance, inferInstance, inferInstance⟩
instance : C_law_is_part tb := ⟨rfl, inferInstance, inferInstance, inferInstance⟩
instance : C_law_near_value tb := ⟨rfl, inferInstance, inferInstance⟩
instance : C_law_wide tb := ⟨rfl, inferInstance⟩
instance : C_law_looked tb := ⟨rfl, inferInstance, inferInstance, inferInstance, inferInstance⟩
instance : C_law_near_form tb := ⟨rfl, inferInstance, inferInstance⟩
instance : Claw tb := ⟨rfl, inferInstance, inferInstance, inferInstance, inferInstance, inferInstance, inferInstance, inferInstance, inferInstance, inferInstance, inferInstance, inferInstance, inferInstance⟩
end K_k01
/-! == LL24 == -/
set_option Elab.async false
set_option linter.all false
set_option maxRecDepth 100000
set_option maxHeartbeats 1000000
/-! LL, part 24: what must hold ahead of a run so that something holds behind it -/
namespace LL
open PySem PySem.Spec PyProof.Rows L2

abbrev Zp := Er → W → Prop
def noZ : Zp := fun _ _ => False
@[irreducible] def wp {α : Type} (x : R (α × W)) (Z : Zp) (Q : α → W → Prop) : Prop := match x with
  | .ok (a, w) => Q a w
  | .er e w => Z e w
  | .bad => False
def po {α : Type} (x : Option α) (Q : α → Prop) : Prop := match x with
  | some a => Q a
  | none => False
structure Po where
  Z : Zp
  N : SEnv → W → Prop
  T : D → W → Prop
  B : SEnv → W → Prop
  C : SEnv → W → Prop
@[irreducible] def wpS (r : Rs) (P : Po) : Prop := match r with
  | .nx s w => P.N s w
  | .rt d w => P.T d w
  | .bk s w => P.B s w
  | .ct s w => P.C s w
  | .er e w => P.Z e w
  | .bad => False
section
variable {α β : Type} {Z : Zp} {Q Q' : α → W → Prop}
@[simp] theorem po_some {a : α} {Q : α → Prop} : po (some a) Q ↔ Q a := Iff.rfl
@[simp] theorem po_none {Q : α → Prop} : po (none : Option α) Q ↔ False := Iff.rfl
@[simp] theorem po_ite {c : Prop} [Decidable c] {x y : Option α} {Q : α → Prop} : po (if c then x else y) Q ↔ (c → po x Q) ∧ (¬ c → po y Q) := by
  by_cases h : c <;> simp [h]
@[simp] theorem po_map {x : Option α} {f : α → β} {Q : β → Prop} : po (x.map f) Q ↔ po x fun a => Q (f a) := by cases x <;> rfl
@[simp] theorem po_bind {x : Option α} {f : α → Option β} {Q : β → Prop} : po (x.bind f) Q ↔ po x fun a => po (f a) Q := by cases x <;> rfl
theorem po_mono {x : Option α} {Q Q' : α → Prop} (h : po x Q) (k : ∀ a, Q a → Q' a) : po x Q' := by cases x with
  | none => exact h
  | some a => exact k a h
theorem po_eq {x : Option α} {a : α} {Q : α → Prop} (h : x = some a) (k : Q a) : po x Q := by rw [h]; exact k
@[simp] theorem wp_ok {a : α} {w : W} : wp (.ok (a, w)) Z Q ↔ Q a w := by unfold wp; exact Iff.rfl
@[simp] theorem wp_er {e : Er} {w : W} : wp (.er e w : R (α × W)) Z Q ↔ Z e w := by unfold wp; exact Iff.rfl
@[simp] theorem wp_bad : wp (.bad : R (α × W)) Z Q ↔ False := by unfold wp; exact Iff.rfl
theorem wp_badE {x : R (α × W)} (h : x = .bad) : wp x Z Q ↔ False := by rw [h, wp_bad]
theorem wp_okE {x : R (α × W)} {a : α} {w : W} (h : x = .ok (a, w)) : wp x Z Q ↔ Q a w := by rw [h, wp_ok]
theorem wp_bind {x : R (α × W)} {f : α × W → R (β × W)} {Q : β → W → Prop} : wp (x.bind f) Z Q ↔ wp x Z fun a w => wp (f (a, w)) Z Q := by
  cases x with
  | ok a => obtain ⟨a, w⟩ := a; rw [wp_ok, R.bind_ok]
  | er e w => rw [wp_er, R.bind_er, wp_er]
  | bad => rw [wp_bad, R.bind_bad, wp_bad]
theorem wp_of {w : W} {x : Option α} : wp (R.of w x) Z Q ↔ po x fun a => Q a w := by
  cases x with
  | none => rw [R.of_none, wp_bad]; first | exact Iff.rfl | exact wp_badE rfl | exact wp_okE rfl | exact wpS_badE rfl | exact wpS_nxE rfl | (simp; done)
  | some a => rw [R.of_some, wp_ok]; first | exact Iff.rfl | exact wp_badE rfl | exact wp_okE rfl | exact wpS_badE rfl | exact wpS_nxE rfl | (simp; done)
theorem wp_monoZ {x : R (α × W)} {Z' : Zp} (h : wp x Z Q) (kz : ∀ e w, Z e w → Z' e w) (k : ∀ a w, Q a w → Q' a w) : wp x Z' Q' := by
  cases x with
  | ok a => obtain ⟨a, w⟩ := a; rw [wp_ok] at h ⊢; exact k _ _ h
  | er e w => rw [wp_er] at h ⊢; exact kz _ _ h
  | bad => rw [wp_bad] at h; exact h.elim
theorem wp_mono {x : R (α × W)} (h : wp x Z Q) (k : ∀ a w, Q a w → Q' a w) : wp x Z Q' := wp_monoZ h (fun _ _ h => h) k
theorem wp_eq {x : R (α × W)} {a : α} {w : W} (h : x = .ok (a, w)) (k : Q a w) : wp x Z Q := by rw [h, wp_ok]; exact k
theorem wp_noer {x : R (α × W)} : wp x.noer Z Q ↔ wp x noZ Q := by
  cases x with
  | ok a => obtain ⟨a, w⟩ := a; rw [R.noer_ok, wp_ok, wp_ok]
  | er e w => rw [R.noer_er, wp_bad, wp_er]; first | exact Iff.rfl | exact wp_badE rfl | exact wp_okE rfl | exact wpS_badE rfl | exact wpS_nxE rfl | (simp; done)
  | bad => rw [R.noer_bad, wp_bad, wp_bad]
theorem wp_to {x : R (α × W)} (h : wp x noZ Q) : ∃ a w, x = .ok (a, w) ∧ Q a w := by
  cases x with
  | ok a => obtain ⟨a, w⟩ := a; rw [wp_ok] at h; exact ⟨a, w, rfl, h⟩
  | er e w => rw [wp_er] at h; exact h.elim
  | bad => rw [wp_bad] at h; exact h.elim
@[simp] theorem wpS_nx {s : SEnv} {w : W} {P : Po} : wpS (.nx s w) P ↔ P.N s w := by unfold wpS; exact Iff.rfl
@[simp] theorem wpS_rt {d : D} {w : W} {P : Po} : wpS (.rt d w) P ↔ P.T d w := by unfold wpS; exact Iff.rfl
@[simp] theorem wpS_bk {s : SEnv} {w : W} {P : Po} : wpS (.bk s w) P ↔ P.B s w := by unfold wpS; exact Iff.rfl
@[simp] theorem wpS_ct {s : SEnv} {w : W} {P : Po} : wpS (.ct s w) P ↔ P.C s w := by unfold wpS; exact Iff.rfl
@[simp] theorem wpS_er {e : Er} {w : W} {P : Po} : wpS (.er e w) P ↔ P.Z e w := by unfold wpS; exact Iff.rfl
@[simp] theorem wpS_bad {P : Po} : wpS .bad P ↔ False := by unfold wpS; exact Iff.rfl
theorem wpS_badE {r : Rs} {P : Po} (h : r = .bad) : wpS r P ↔ False := by rw [h, wpS_bad]
theorem wpS_nxE {r : Rs} {s : SEnv} {w : W} {P : Po} (h : r = .nx s w) : wpS r P ↔ P.N s w := by rw [h, wpS_nx]
theorem wpS_seq {r : Rs} {f : SEnv → W → Rs} {P : Po} : wpS (r.seq f) P ↔ wpS r { P with N := fun s w => wpS (f s w) P } := by cases r <;> simp
theorem wpS_turn {r : Rs} {f : SEnv → W → Rs} {P : Po} : wpS (r.turn f) P ↔ wpS r { P with N := fun s w => wpS (f s w) P, C := fun s w => wpS (f s w) P, B := P.N } := by cases r <;> simp
theorem wpS_then {x : R (α × W)} {f : α × W → Rs} {P : Po} : wpS (x.thenS f) P ↔ wp x P.Z fun a w => wpS (f (a, w)) P := by
  cases x with
  | ok a => obtain ⟨a, w⟩ := a; rw [wp_ok, R.thenS_ok]
  | er e w => rw [wp_er, R.thenS_er, wpS_er]
  | bad => rw [wp_bad, R.thenS_bad, wpS_bad]
theorem wpS_mono {r : Rs} {P P' : Po} (h : wpS r P) (hz : ∀ e w, P.Z e w → P'.Z e w) (hn : ∀ s w, P.N s w → P'.N s w) (ht : ∀ s w, P.T s w → P'.T s w) (hb : ∀ s w, P.B s w → P'.B s w) (hc : ∀ s w, P.C s w → P'.C s w) : wpS r P' := by
  cases r with
  | nx s w => rw [wpS_nx] at h ⊢; exact hn _ _ h
  | rt d w => rw [wpS_rt] at h ⊢; exact ht _ _ h
  | bk s w => rw [wpS_bk] at h ⊢; exact hb _ _ h
  | ct s w => rw [wpS_ct] at h ⊢; exact hc _ _ h
  | er e w => rw [wpS_er] at h ⊢; exact hz _ _ h
  | bad => rw [wpS_bad] at h; exact h.elim
end
/-- a truth value -/
def bp (x : D) (Q : Bool → Prop) : Prop := match x with
  | .bl b => Q b
  | _ => False
@[simp] theorem bp_bl {b : Bool} {Q : Bool → Prop} : bp (.bl b) Q ↔ Q b := Iff.rfl
@[simp] theorem po_asB {x : D} {Q : Bool → Prop} : po (asB x) Q ↔ bp x Q := by cases x <;> rfl
/-- two ways -/
def two (b : Bool) (P Q : Prop) : Prop := (b = true → P) ∧ (b = false → Q)
@[simp] theorem two_t {P Q : Prop} : two true P Q ↔ P := by simp [two]
@[simp] theorem two_f {P Q : Prop} : two false P Q ↔ Q := by simp [two]
section
variable {Φ : Fns} {env : Env} {Z : Zp} {Q : D → W → Prop} {w : W} {a b c d e i : LE} {es : LEs}
@[simp] theorem w_v {i : Nat} : wp (ev Φ env (.v i) w) Z Q ↔ po (env[i]?.bind id) fun d => Q d w := by rw [ev]; exact wp_of
@[simp] theorem w_c {d : D} : wp (ev Φ env (.c d) w) Z Q ↔ Q d w := by rw [ev]; exact wp_ok
@[simp] theorem w_g {x : Str} {d : D} : wp (ev Φ env (.g x d) w) Z Q ↔ Q d w := by rw [ev]; exact wp_ok
@[simp] theorem w_tup : wp (ev Φ env (.tup es) w) Z Q ↔ wp (evs Φ env es w) Z fun ds w => ds.length ≤ big ∧ Q (.tup ds) w := by
  rw [ev, wp_bind]
  exact iff_of_eq (congrArg _ (funext fun ds => funext fun w => propext (by by_cases h : ds.length ≤ big <;> simp [h])))
@[simp] theorem w_lst : wp (ev Φ env (.lst es) w) Z Q ↔ wp (evs Φ env es w) Z fun ds w => ds.length ≤ big ∧ Q (.lst ds) w := by
  rw [ev, wp_bind]
  exact iff_of_eq (congrArg _ (funext fun ds => funext fun w => propext (by by_cases h : ds.length ≤ big <;> simp [h])))
@[simp] theorem w_op {o : Op2} : wp (ev Φ env (.op o a b) w) Z Q ↔ wp (ev Φ env a w) Z fun x w => wp (ev Φ env b w) Z fun y w => po (opD o x y) fun z => Q z w := by
  simp only [ev, wp_bind, wp_of]
@[simp] theorem w_cm {o : Cm} : wp (ev Φ env (.cm o a b) w) Z Q ↔ wp (ev Φ env a w) Z fun x w => wp (ev Φ env b w) Z fun y w => po (cmD o x y) fun t => Q (.bl t) w := by
  simp only [ev, wp_bind, wp_of, po_map]
@[simp] theorem w_chain {o p : Cm} : wp (ev Φ env (.chain o p a b c) w) Z Q ↔ wp (ev Φ env a w) Z fun x w => wp (ev Φ env b w) Z fun y w => po (cmD o x y) fun t => two t (wp (ev Φ env c w) Z fun z w => po (cmD p y z) fun t => Q (.bl t) w) (Q (.bl false) w) := by
  simp only [ev, wp_bind]
  refine iff_of_eq (congrArg _ (funext fun x => funext fun w => congrArg _ (funext fun y => funext fun w => propext ?_)))
  cases h : cmD o x y with
  | none => simp
  | some t => cases t <;> simp [wp_bind, wp_of]
@[simp] theorem w_not : wp (ev Φ env (.not_ a) w) Z Q ↔ wp (ev Φ env a w) Z fun x w => bp x fun t => Q (.bl (!t)) w := by
  simp only [ev, wp_bind, wp_of, po_map, po_asB]
@[simp] theorem w_and : wp (ev Φ env (.and_ a b) w) Z Q ↔ wp (ev Φ env a w) Z fun x w => bp x fun t => two t (wp (ev Φ env b w) Z Q) (Q (.bl false) w) := by
  simp only [ev, wp_bind]
  refine iff_of_eq (congrArg _ (funext fun x => funext fun w => propext ?_))
  cases x with
  | bl t => cases t <;> simp [asB]
  | _ => first | exact Iff.rfl | exact wp_badE rfl | exact wp_okE rfl | exact wpS_badE rfl | exact wpS_nxE rfl | (simp; done)
@[simp] theorem w_or : wp (ev Φ env (.or_ a b) w) Z Q ↔ wp (ev Φ env a w) Z fun x w => bp x fun t => two t (Q (.bl true) w) (wp (ev Φ env b w) Z Q) := by
  simp only [ev, wp_bind]
  refine iff_of_eq (congrArg _ (funext fun x => funext fun w => propext ?_))
  cases x with
  | bl t => cases t <;> simp [asB]
  | _ => first | exact Iff.rfl | exact wp_badE rfl | exact wp_okE rfl | exact wpS_badE rfl | exact wpS_nxE rfl | (simp; done)
@[simp] theorem w_ite : wp (ev Φ env (.ite c a b) w) Z Q ↔ wp (ev Φ env c w) Z fun x w => bp x fun t => two t (wp (ev Φ env a w) Z Q) (wp (ev Φ env b w) Z Q) := by
  simp only [ev, wp_bind]
  refine iff_of_eq (congrArg _ (funext fun x => funext fun w => propext ?_))
  cases x with
  | bl t => cases t <;> simp [asB]
  | _ => first | exact Iff.rfl | exact wp_badE rfl | exact wp_okE rfl | exact wpS_badE rfl | exact wpS_nxE rfl | (simp; done)
/-- a whole number -/
def ip (x : D) (Q : Int → Prop) : Prop := match x with
  | .int b => Q b
  | _ => False
@[simp] theorem ip_int {b : Int} {Q : Int → Prop} : ip (.int b) Q ↔ Q b := Iff.rfl
def lp (x : D) (Q : List D → Prop) : Prop := match x with
  | .lst b => Q b
  | _ => False
@[simp] theorem lp_lst {b : List D} {Q : List D → Prop} : lp (.lst b) Q ↔ Q b := Iff.rfl
@[simp] theorem w_neg : wp (ev Φ env (.neg a) w) Z Q ↔ wp (ev Φ env a w) Z fun x w => ip x fun i => Q (.int (-i)) w := by
  simp only [ev, wp_bind]
  refine iff_of_eq (congrArg _ (funext fun x => funext fun w => propext ?_))
  cases x <;> first | exact Iff.rfl | exact wp_badE rfl | exact wp_okE rfl | exact wpS_badE rfl | exact wpS_nxE rfl | (simp; done)
@[simp] theorem w_ix : wp (ev Φ env (.ix a i) w) Z Q ↔ wp (ev Φ env a w) Z fun x w => wp (ev Φ env i w) Z fun y w => po (ixD x y) fun z => Q z w := by
  simp only [ev, wp_bind, wp_of]
@[simp] theorem w_rev : wp (ev Φ env (.rev a) w) Z Q ↔ wp (ev Φ env a w) Z fun x w => lp x fun ds => Q (.lst ds.reverse) w := by
  simp only [ev, wp_bind]
  refine iff_of_eq (congrArg _ (funext fun x => funext fun w => propext ?_))
  cases x <;> first | exact Iff.rfl | exact wp_badE rfl | exact wp_okE rfl | exact wpS_badE rfl | exact wpS_nxE rfl | (simp; done)
@[simp] theorem w_call {f : Nat} : wp (ev Φ env (.call f es) w) Z Q ↔ wp (evs Φ env es w) Z fun ds w => wp (Φ f ds w) Z Q := by
  simp only [ev, wp_bind]
@[simp] theorem w_bi {k : Bi} : wp (ev Φ env (.bi k es) w) Z Q ↔ wp (evs Φ env es w) Z fun ds w => po (biD k ds) fun z => Q z w := by
  simp only [ev, wp_bind, wp_of]
@[simp] theorem w_dsp {L : List (Str × Str)} {k v : Str} : wp (ev Φ env (.dsp L k v) w) Z Q ↔ Q (.dct (L.map (·.1) ++ [k]) ((L.map (·.2) ++ [v]).map .str)) w := by rw [ev]; exact wp_ok
def sp (x : D) (Q : Str → Prop) : Prop := match x with
  | .str b => Q b
  | _ => False
@[simp] theorem sp_str {b : Str} {Q : Str → Prop} : sp (.str b) Q ↔ Q b := Iff.rfl
@[simp] theorem w_smeth {m : Sm} : wp (ev Φ env (.smeth m a b) w) Z Q ↔ wp (ev Φ env a w) Z fun x w => sp x fun s => wp (ev Φ env b w) Z fun y w => po (smD m (.str s) y) fun z => Q z w := by
  simp only [ev, wp_bind]
  refine iff_of_eq (congrArg _ (funext fun x => funext fun w => propext ?_))
  cases x with
  | str s => simp only [wp_bind, wp_of, sp_str]
  | _ => first | exact Iff.rfl | exact wp_badE rfl | exact wp_okE rfl | exact wpS_badE rfl | exact wpS_nxE rfl | (simp; done)
/-- a slice's ends -/
def we (Φ : Fns) (env : Env) (e : LE) (w : W) (Z : Zp) (Q : Option Int → W → Prop) : Prop := wp (evoF (isNop e) (fun w => ev Φ env e w) w) Z Q
theorem we_nop {Q : Option Int → W → Prop} : we Φ env .nop w Z Q ↔ Q none w := wp_okE rfl
theorem we_ex {Q : Option Int → W → Prop} (h : isNop e = false) : we Φ env e w Z Q ↔ wp (ev Φ env e w) Z fun x w => ip x fun i => Q (some i) w := by
  unfold we
  rw [h]
  simp only [evoF, wp_bind]
  refine iff_of_eq (congrArg _ (funext fun x => funext fun w => propext ?_))
  cases x <;> first | exact Iff.rfl | exact wp_badE rfl | exact wp_okE rfl | exact wpS_badE rfl | exact wpS_nxE rfl | (simp; done)
@[simp] theorem w_sl : wp (ev Φ env (.sl a b c) w) Z Q ↔ wp (ev Φ env a w) Z fun x w => we Φ env b w Z fun l w => we Φ env c w Z fun h w => po (slD x l h) fun z => Q z w := by
  simp only [ev, wp_bind, wp_of, we]
@[simp] theorem ws_nil {Q : List D → W → Prop} : wp (evs Φ env .nil w) Z Q ↔ Q [] w := by rw [evs]; exact wp_ok
@[simp] theorem ws_cons {Q : List D → W → Prop} : wp (evs Φ env (.cons e es) w) Z Q ↔ wp (ev Φ env e w) Z fun d w => wp (evs Φ env es w) Z fun ds w => Q (d :: ds) w := by
  simp only [evs, wp_bind, wp_ok]
/-- a turn of a comprehension -/
def compB (Φ : Fns) (env : Env) (tg : Tg) (cond elt : LE) (own : List Nat) (d : D) (w : W) : R (Option D × W) := match bindT tg d (wipeE env own) with
  | none => .bad
  | some env' => (match isNop cond with | true => R.ok (D.bl true, w) | false => ev Φ env' cond w).bind fun (x, w) => match asB x with
    | some true => (ev Φ env' elt w).bind fun (y, w) => .ok (some y, w)
    | some false => .ok (none, w)
    | none => .bad
@[simp] theorem w_comp {tg : Tg} {it : LI} {cond elt : LE} {own : List Nat} : wp (ev Φ env (.comp tg it cond elt own) w) Z Q ↔
    wp (evi Φ env it w) Z fun ds w => wp (compGo (compB Φ env tg cond elt own) ds w) noZ fun xs w => xs.length ≤ big ∧ Q (.lst xs) w := by
  rw [ev, wp_bind]
  refine iff_of_eq (congrArg _ (funext fun ds => funext fun w => ?_))
  refine propext ?_
  show wp ((R.noer (compGo (compB Φ env tg cond elt own) ds w)).bind fun (xs, w) => if xs.length ≤ big then R.ok (D.lst xs, w) else R.bad) Z Q ↔ _
  cases compGo (compB Φ env tg cond elt own) ds w with
  | ok a =>
    obtain ⟨xs, w⟩ := a
    by_cases h : xs.length ≤ big <;> simp [h]
  | er e w => first | (rw [wp_er]; exact wp_badE rfl) | exact Iff.rfl | exact wp_badE rfl | exact wp_okE rfl | exact wpS_badE rfl | exact wpS_nxE rfl | (simp; done)
  | bad => first | exact Iff.rfl | exact wp_badE rfl | exact wp_okE rfl | exact wpS_badE rfl | exact wpS_nxE rfl | (simp; done)
theorem wc_all {tg : Tg} {elt : LE} {own : List Nat} {x : D} {Q : Option D → W → Prop} : wp (compB Φ env tg .nop elt own x w) Z Q ↔ po (bindT tg x (wipeE env own)) fun env' => wp (ev Φ env' elt w) Z fun y w => Q (some y) w := by
  unfold compB
  cases bindT tg x (wipeE env own) with
  | none => first | exact Iff.rfl | exact wp_badE rfl | exact wp_okE rfl | exact wpS_badE rfl | exact wpS_nxE rfl | (simp; done)
  | some env' => simp [isNop, asB, wp_bind]
theorem wc_if {tg : Tg} {cond elt : LE} {own : List Nat} {x : D} {Q : Option D → W → Prop} (h : isNop cond = false) : wp (compB Φ env tg cond elt own x w) Z Q ↔ po (bindT tg x (wipeE env own)) fun env' => wp (ev Φ env' cond w) Z fun y w => bp y fun t => two t (wp (ev Φ env' elt w) Z fun y w => Q (some y) w) (Q none w) := by
  unfold compB
  cases bindT tg x (wipeE env own) with
  | none => first | exact Iff.rfl | exact wp_badE rfl | exact wp_okE rfl | exact wpS_badE rfl | exact wpS_nxE rfl | (simp; done)
  | some env' =>
    rw [h]
    simp only [wp_bind, po_some]
    refine iff_of_eq (congrArg _ (funext fun y => funext fun w => propext ?_))
    cases y with
    | bl t => cases t <;> simp [asB, wp_bind]
    | _ => first | exact Iff.rfl | exact wp_badE rfl | exact wp_okE rfl | exact wpS_badE rfl | exact wpS_nxE rfl | (simp; done)
@[simp] theorem wi_itm {Q : List D → W → Prop} : wp (evi Φ env (.itm e) w) Z Q ↔ wp (ev Φ env e w) Z fun x w => po (itemsD x) fun ds => Q ds w := by
  simp only [evi, wp_bind, wp_of]
@[simp] theorem wi_rng1 {Q : List D → W → Prop} : wp (evi Φ env (.rng1 e) w) Z Q ↔ wp (ev Φ env e w) Z fun x w => ip x fun i => okI i = true ∧ Q (rngD 0 i.toNat) w := by
  simp only [evi, wp_bind]
  refine iff_of_eq (congrArg _ (funext fun x => funext fun w => propext ?_))
  cases x with
  | int i => by_cases h : okI i = true <;> simp [h]
  | _ => first | exact Iff.rfl | exact wp_badE rfl | exact wp_okE rfl | exact wpS_badE rfl | exact wpS_nxE rfl | (simp; done)
@[simp] theorem wi_zip {Q : List D → W → Prop} : wp (evi Φ env (.zip a b) w) Z Q ↔ wp (ev Φ env a w) Z fun x w => wp (ev Φ env b w) Z fun y w => po (itemsD x) fun xs => po (itemsD y) fun ys => Q ((xs.zip ys).map fun p => .tup [p.1, p.2]) w := by
  simp only [evi, wp_bind]
  refine iff_of_eq (congrArg _ (funext fun x => funext fun w => congrArg _ (funext fun y => funext fun w => propext ?_)))
  cases itemsD x <;> cases itemsD y <;> simp
/-- all turns of a comprehension alike, nothing changed -/
theorem comp_pure {f : D → W → R (Option D × W)} {g : D → Option D} {ds : List D} {Q : List D → W → Prop} (h : ∀ d ∈ ds, wp (f d w) noZ fun o w' => o = g d ∧ w' = w) (k : Q (ds.filterMap g) w) : wp (compGo f ds w) noZ Q := by
  induction ds generalizing Q with
  | nil => rw [compGo, wp_ok]; exact k
  | cons d ds ih =>
    obtain ⟨o, w', e, rfl, rfl⟩ := wp_to (h d (List.mem_cons_self ..))
    rw [compGo, wp_bind, e]
    simp only [wp_ok, wp_bind]
    refine ih (fun d hd => h d (List.mem_cons_of_mem _ hd)) ?_
    cases hg : g d <;> simpa [hg] using k
/-- all turns of a comprehension: something that stays, something of each -/
theorem comp_inv {f : D → W → R (Option D × W)} {I : W → Prop} {P : D → Prop} {ds : List D} {Q : List D → W → Prop} (h : ∀ d ∈ ds, ∀ w, I w → wp (f d w) noZ fun o w' => I w' ∧ ∀ x, o = some x → P x) (hi : I w)
    (k : ∀ xs w', I w' → xs.length ≤ ds.length → (∀ x ∈ xs, P x) → Q xs w') : wp (compGo f ds w) noZ Q := by
  induction ds generalizing Q w with
  | nil => rw [compGo, wp_ok]; exact k [] w hi (Nat.le_refl _) (by simp)
  | cons d ds ih =>
    rw [compGo, wp_bind]
    refine wp_mono (h d (List.mem_cons_self ..) w hi) fun o w1 ⟨i1, p1⟩ => ?_
    simp only [wp_bind, wp_ok]
    refine ih (fun d hd => h d (List.mem_cons_of_mem _ hd)) i1 fun xs w2 i2 l2 p2 => ?_
    cases o with
    | none => exact k _ _ i2 (by simpa using Nat.le_succ_of_le l2) p2
    | some x =>
      refine k _ _ i2 (by simpa using l2) fun y hy => ?_
      rcases List.mem_cons.mp hy with rfl | hy
      · exact p1 _ rfl
      · exact p2 _ hy
/-- the same, where each turn brings one -/
theorem comp_invA {f : D → W → R (Option D × W)} {I : W → Prop} {P : D → Prop} {ds : List D} {Q : List D → W → Prop} (h : ∀ d ∈ ds, ∀ w, I w → wp (f d w) noZ fun o w' => I w' ∧ ∃ x, o = some x ∧ P x) (hi : I w)
    (k : ∀ xs w', I w' → xs.length = ds.length → (∀ x ∈ xs, P x) → Q xs w') : wp (compGo f ds w) noZ Q := by
  induction ds generalizing Q w with
  | nil => rw [compGo, wp_ok]; exact k [] w hi rfl (by simp)
  | cons d ds ih =>
    rw [compGo, wp_bind]
    refine wp_mono (h d (List.mem_cons_self ..) w hi) fun o w1 ⟨i1, x, ho, p1⟩ => ?_
    subst ho
    simp only [wp_bind, wp_ok]
    refine ih (fun d hd => h d (List.mem_cons_of_mem _ hd)) i1 fun xs w2 i2 l2 p2 => ?_
    refine k _ _ i2 (by simpa using l2) fun y hy => ?_
    rcases List.mem_cons.mp hy with rfl | hy
    · exact p1
    · exact p2 _ hy
end
end LL
/-! == LL25 == -/
set_option Elab.async false
set_option linter.all false
set_option maxRecDepth 100000
set_option maxHeartbeats 1000000
/-! LL, part 25: the same of statements -/
namespace LL
open PySem PySem.Spec PyProof.Rows L2
section
variable {Φ : Fns} {n : Nat} {s : SEnv} {Z : Zp} {w : W} {kp fz : List Nat} {e lo hi c : LE} {es : LEs} {P : Po} {a b ss : LSs} {st : LS} {i j : Nat} {tg : Tg}
@[simp] theorem w_evS {Q : D → W → Prop} : wp (evS Φ kp fz e s w) Z Q ↔ wp (ev Φ (view (frz kp (frz fz s))) e w) Z fun d w => (kp.isEmpty || !d.hasL) = true ∧ Q d w := by
  unfold evS
  rw [wp_bind]
  refine iff_of_eq (congrArg _ (funext fun d => funext fun w => propext ?_))
  show wp (if (kp.isEmpty || !d.hasL) = true then R.ok (d, w) else R.bad) Z Q ↔ _
  by_cases h : (kp.isEmpty || !d.hasL) = true
  · rw [if_pos h, wp_ok]; simp only [h, true_and]
  · rw [if_neg h, wp_bad]; exact ⟨fun q => q.elim, fun q => h q.1⟩
@[simp] theorem w_toB {x : R (D × W)} {Q : Bool → W → Prop} : wp (toB x) Z Q ↔ wp x Z fun d w => bp d fun t => Q t w := by
  unfold toB
  simp only [wp_bind, wp_of, po_asB]
@[simp] theorem w_toI {x : R (D × W)} {Q : Int → W → Prop} : wp (toI x) Z Q ↔ wp x Z fun d w => ip d fun t => Q t w := by
  unfold toI
  rw [wp_bind]
  refine iff_of_eq (congrArg _ (funext fun d => funext fun w => propext ?_))
  cases d <;> first | exact Iff.rfl | exact wp_badE rfl | exact wp_okE rfl | exact wpS_badE rfl | exact wpS_nxE rfl | (simp; done)
theorem opt_wpS {α : Type} {x : Option α} {f : α → Rs} : wpS (match x with | some a => f a | none => .bad) P ↔ po x fun a => wpS (f a) P := by cases x <;> first | rfl | exact wpS_badE rfl
@[simp] theorem x_nil : wpS (execs Φ n .nil s w) P ↔ P.N s w := by rw [execs]; first | exact Iff.rfl | exact wp_badE rfl | exact wp_okE rfl | exact wpS_badE rfl | exact wpS_nxE rfl | (simp; done)
@[simp] theorem x_cons : wpS (execs Φ n (.cons st ss) s w) P ↔ wpS (exec Φ n st s w) { P with N := fun s w => wpS (execs Φ n ss s w) P } := by rw [execs, wpS_seq]
@[simp] theorem x_set : wpS (exec Φ n (.set kp fz tg e) s w) P ↔ wp (evS Φ kp fz e s w) P.Z fun d w => po (setT tg d (frz fz s)) fun s => P.N s w := by
  simp only [exec, wpS_then]
  refine iff_of_eq (congrArg _ (funext fun d => funext fun w => propext ?_))
  cases setT tg d (frz fz s) <;> first | exact Iff.rfl | exact wp_badE rfl | exact wp_okE rfl | exact wpS_badE rfl | exact wpS_nxE rfl | (simp; done)
@[simp] theorem x_new : wpS (exec Φ n (.new fz i e) s w) P ↔ wp (evS Φ [] fz e s w) P.Z fun d w => lp d fun ds => P.N ((frz fz s).set i (.own ds)) w := by
  simp only [exec, wpS_then]
  refine iff_of_eq (congrArg _ (funext fun d => funext fun w => propext ?_))
  cases d <;> first | exact Iff.rfl | exact wp_badE rfl | exact wp_okE rfl | exact wpS_badE rfl | exact wpS_nxE rfl | (simp; done)
@[simp] theorem x_par {is : List Nat} {os : List Bool} : wpS (exec Φ n (.par kp fz is os es) s w) P ↔ wp (parGo Φ kp (frz fz s) es os w) P.Z fun xs w => po (putSlots is xs (frz fz s)) fun s => P.N s w := by
  simp only [exec, wpS_then]
  refine iff_of_eq (congrArg _ (funext fun d => funext fun w => propext ?_))
  cases putSlots is d (frz fz s) <;> first | exact Iff.rfl | exact wp_badE rfl | exact wp_okE rfl | exact wpS_badE rfl | exact wpS_nxE rfl | (simp; done)
@[simp] theorem par_nil {Q : List Slot → W → Prop} : wp (parGo Φ kp s .nil [] w) Z Q ↔ Q [] w := by rw [parGo]; exact wp_ok
@[simp] theorem par_cons {o : Bool} {os : List Bool} {Q : List Slot → W → Prop} : wp (parGo Φ kp s (.cons e es) (o :: os) w) Z Q ↔ wp (evS Φ kp [] e s w) Z fun d w => po (toSlot o d) fun x => wp (parGo Φ kp s es os w) Z fun xs w => Q (x :: xs) w := by
  simp only [parGo, wp_bind]
  refine iff_of_eq (congrArg _ (funext fun d => funext fun w => propext ?_))
  cases toSlot o d with
  | none => first | exact Iff.rfl | exact wp_badE rfl | exact wp_okE rfl | exact wpS_badE rfl | exact wpS_nxE rfl | (simp; done)
  | some x => simp only [wp_bind, wp_ok, po_some]
@[simp] theorem x_app : wpS (exec Φ n (.app kp fz i e) s w) P ↔ po (ownAt (frz fz s) i) fun ds => wp (evS Φ kp fz e s w) P.Z fun d w => ds.length < big ∧ P.N ((frz fz s).set i (.own (ds ++ [d]))) w := by
  simp only [exec]
  cases ownAt (frz fz s) i with
  | none => first | exact Iff.rfl | exact wp_badE rfl | exact wp_okE rfl | exact wpS_badE rfl | exact wpS_nxE rfl | (simp; done)
  | some ds =>
    simp only [wpS_then, po_some]
    refine iff_of_eq (congrArg _ (funext fun d => funext fun w => propext ?_))
    by_cases h : ds.length < big <;> simp [h]
@[simp] theorem x_ext : wpS (exec Φ n (.ext fz i e) s w) P ↔ po (ownAt (frz fz s) i) fun ds => wp (evS Φ [] fz e s w) P.Z fun d w => lp d fun es => ds.length + es.length ≤ big ∧ P.N ((frz fz s).set i (.own (ds ++ es))) w := by
  simp only [exec]
  cases ownAt (frz fz s) i with
  | none => first | exact Iff.rfl | exact wp_badE rfl | exact wp_okE rfl | exact wpS_badE rfl | exact wpS_nxE rfl | (simp; done)
  | some ds =>
    simp only [wpS_then, po_some]
    refine iff_of_eq (congrArg _ (funext fun d => funext fun w => propext ?_))
    cases d with
    | lst es => by_cases h : ds.length + es.length ≤ big <;> simp [h]
    | _ => first | exact Iff.rfl | exact wp_badE rfl | exact wp_okE rfl | exact wpS_badE rfl | exact wpS_nxE rfl | (simp; done)
@[simp] theorem x_iadd : wpS (exec Φ n (.iadd fz i e) s w) P ↔ po (ownAt (frz fz s) i) fun ds => wp (evS Φ [] fz e s w) P.Z fun d w => lp d fun es => ds.length + es.length ≤ big ∧ P.N ((frz fz s).set i (.own (ds ++ es))) w := by
  simp only [exec]
  cases ownAt (frz fz s) i with
  | none => first | exact Iff.rfl | exact wp_badE rfl | exact wp_okE rfl | exact wpS_badE rfl | exact wpS_nxE rfl | (simp; done)
  | some ds =>
    simp only [wpS_then, po_some]
    refine iff_of_eq (congrArg _ (funext fun d => funext fun w => propext ?_))
    cases d with
    | lst es => by_cases h : ds.length + es.length ≤ big <;> simp [h]
    | _ => first | exact Iff.rfl | exact wp_badE rfl | exact wp_okE rfl | exact wpS_badE rfl | exact wpS_nxE rfl | (simp; done)
/-- the target of a pop -/
def popT (j : Option Tg) (d : D) (s : SEnv) : Option SEnv := match j with
  | some j => setT j d s
  | none => some s
@[simp] theorem x_pop {j : Option Tg} : wpS (exec Φ n (.pop j i) s w) P ↔ po (ownAt s i) fun ds => po ds[ds.length - 1]? fun d => po (popT j d (s.set i (.own ds.dropLast))) fun s => P.N s w := by
  simp only [exec]
  cases ownAt s i with
  | none => first | exact Iff.rfl | exact wp_badE rfl | exact wp_okE rfl | exact wpS_badE rfl | exact wpS_nxE rfl | (simp; done)
  | some ds =>
    simp only [po_some]
    cases ds[ds.length - 1]? with
    | none => first | exact Iff.rfl | exact wp_badE rfl | exact wp_okE rfl | exact wpS_badE rfl | exact wpS_nxE rfl | (simp; done)
    | some d =>
      cases j with
      | none => first | exact Iff.rfl | exact wp_badE rfl | exact wp_okE rfl | exact wpS_badE rfl | exact wpS_nxE rfl | (simp; done)
      | some j =>
        simp only [po_some, popT]
        cases setT j d (s.set i (.own ds.dropLast)) <;> first | exact Iff.rfl | exact wp_badE rfl | exact wp_okE rfl | exact wpS_badE rfl | exact wpS_nxE rfl | (simp; done)
@[simp] theorem x_put {ix : LE} : wpS (exec Φ n (.put kp fz i ix e) s w) P ↔ po (ownAt (frz fz s) i) fun ds => wp (evS Φ kp fz e s w) P.Z fun d w => wp (evS Φ kp [] ix (frz fz s) w) P.Z fun k w => ip k fun k => po (ixN ds.length k) fun j => P.N ((frz fz s).set i (.own (ds.set j d))) w := by
  simp only [exec]
  cases ownAt (frz fz s) i with
  | none => first | exact Iff.rfl | exact wp_badE rfl | exact wp_okE rfl | exact wpS_badE rfl | exact wpS_nxE rfl | (simp; done)
  | some ds =>
    simp only [wpS_then, po_some, w_toI]
    refine iff_of_eq (congrArg _ (funext fun d => funext fun w => congrArg _ (funext fun k => funext fun w => congrArg _ (funext fun k => propext ?_))))
    cases ixN ds.length k <;> first | exact Iff.rfl | exact wp_badE rfl | exact wp_okE rfl | exact wpS_badE rfl | exact wpS_nxE rfl | (simp; done)
@[simp] theorem x_aug {o : Op2} : wpS (exec Φ n (.aug kp fz o i e) s w) P ↔ po (valAt (frz fz s) i) fun x => wp (evS Φ kp fz e s w) P.Z fun d w => po (augD o x d) fun z => P.N ((frz fz s).set i (.val z)) w := by
  simp only [exec]
  cases valAt (frz fz s) i with
  | none => first | exact Iff.rfl | exact wp_badE rfl | exact wp_okE rfl | exact wpS_badE rfl | exact wpS_nxE rfl | (simp; done)
  | some x =>
    simp only [wpS_then, po_some]
    refine iff_of_eq (congrArg _ (funext fun d => funext fun w => propext ?_))
    cases augD o x d <;> first | exact Iff.rfl | exact wp_badE rfl | exact wp_okE rfl | exact wpS_badE rfl | exact wpS_nxE rfl | (simp; done)
@[simp] theorem x_exp : wpS (exec Φ n (.exp kp fz e) s w) P ↔ wp (evS Φ kp fz e s w) P.Z fun _ w => P.N (frz fz s) w := by
  simp only [exec, wpS_then, wpS_nx]
@[simp] theorem x_iff : wpS (exec Φ n (.iff kp fz c a b) s w) P ↔ wp (evS Φ kp fz c s w) P.Z fun d w => bp d fun t => two t (wpS (execs Φ n a (frz fz s) w) P) (wpS (execs Φ n b (frz fz s) w) P) := by
  simp only [exec, wpS_then, w_toB]
  refine iff_of_eq (congrArg _ (funext fun d => funext fun w => congrArg _ (funext fun t => propext ?_)))
  cases t <;> simp
@[simp] theorem x_ret : wpS (exec Φ n (.ret fz e) s w) P ↔ wp (evS Φ [] fz e s w) P.Z fun d w => P.T d w := by
  simp only [exec, wpS_then, wpS_rt]
@[simp] theorem x_retO : wpS (exec Φ n (.retO i) s w) P ↔ po (ownAt s i) fun ds => P.T (.lst ds) w := by
  simp only [exec]
  cases ownAt s i <;> first | exact Iff.rfl | exact wp_badE rfl | exact wp_okE rfl | exact wpS_badE rfl | exact wpS_nxE rfl | (simp; done)
@[simp] theorem x_retD {a b : LE} : wpS (exec Φ n (.retD kp fz a b) s w) P ↔ wp (evS Φ kp fz a s w) P.Z fun x w => lp x fun ds => wp (evS Φ kp [] b (frz fz s) w) P.Z fun k w => ip k fun k => po (D.toInts ds) fun cs => P.T (.ob w.length) (w ++ [.deal cs k]) := by
  simp only [exec, wpS_then]
  refine iff_of_eq (congrArg _ (funext fun x => funext fun w => propext ?_))
  cases x with
  | lst ds =>
    simp only [wpS_then, lp_lst, w_toI]
    refine iff_of_eq (congrArg _ (funext fun d => funext fun w => congrArg _ (funext fun t => propext ?_)))
    cases D.toInts ds <;> first | exact Iff.rfl | exact wp_badE rfl | exact wp_okE rfl | exact wpS_badE rfl | exact wpS_nxE rfl | (simp; done)
  | _ => first | exact Iff.rfl | exact wp_badE rfl | exact wp_okE rfl | exact wpS_badE rfl | exact wpS_nxE rfl | (simp; done)
@[simp] theorem x_appPop : wpS (exec Φ n (.appPop kp fz i j e) s w) P ↔ po (ownAt (frz fz s) i) fun ds => po (ownAt (frz fz s) j) fun es => i ≠ j ∧ wp (evS Φ kp fz e s w) P.Z fun k w => ip k fun k => po (ixN es.length k) fun m => po es[m]? fun d => (ds.length < big ∧ okI k = true) ∧ P.N (((frz fz s).set j (.own (es.eraseIdx m))).set i (.own (ds ++ [d]))) w := by
  simp only [exec]
  cases ownAt (frz fz s) i with
  | none => first | exact Iff.rfl | exact wp_badE rfl | exact wp_okE rfl | exact wpS_badE rfl | exact wpS_nxE rfl | (simp; done)
  | some ds =>
    simp only [po_some]
    cases ownAt (frz fz s) j with
    | none => first | exact Iff.rfl | exact wp_badE rfl | exact wp_okE rfl | exact wpS_badE rfl | exact wpS_nxE rfl | (simp; done)
    | some es =>
      simp only [po_some]
      by_cases h : i = j
      · simp [h]
      · simp only [h, if_false, wpS_then, w_toI, ne_eq, not_false_eq_true, true_and]
        refine iff_of_eq (congrArg _ (funext fun d => funext fun w => congrArg _ (funext fun t => propext ?_)))
        cases ixN es.length t with
        | none => first | exact Iff.rfl | exact wp_badE rfl | exact wp_okE rfl | exact wpS_badE rfl | exact wpS_nxE rfl | (simp; done)
        | some m =>
          simp only [po_some]
          cases es[m]? with
          | none => first | exact Iff.rfl | exact wp_badE rfl | exact wp_okE rfl | exact wpS_badE rfl | exact wpS_nxE rfl | (simp; done)
          | some d => 
            simp only [po_some]
            by_cases h : ds.length < big ∧ okI t = true
            · rw [if_pos h, wpS_nx]; simp [h]
            · rw [if_neg h, wpS_bad]; simp [h]
@[simp] theorem x_popAt {t : Nat} : wpS (exec Φ n (.popAt kp fz t j e) s w) P ↔ po (ownAt (frz fz s) j) fun es => wp (evS Φ kp fz e s w) P.Z fun k w => ip k fun k => po (ixN es.length k) fun m => po es[m]? fun d => okI k = true ∧ P.N (((frz fz s).set j (.own (es.eraseIdx m))).set t (.val d)) w := by
  simp only [exec]
  cases ownAt (frz fz s) j with
  | none => first | exact Iff.rfl | exact wp_badE rfl | exact wp_okE rfl | exact wpS_badE rfl | exact wpS_nxE rfl | (simp; done)
  | some es =>
    simp only [po_some, wpS_then, w_toI]
    refine iff_of_eq (congrArg _ (funext fun d => funext fun w => congrArg _ (funext fun t => propext ?_)))
    cases ixN es.length t with
    | none => first | exact Iff.rfl | exact wp_badE rfl | exact wp_okE rfl | exact wpS_badE rfl | exact wpS_nxE rfl | (simp; done)
    | some m =>
      simp only [po_some]
      cases es[m]? with
      | none => first | exact Iff.rfl | exact wp_badE rfl | exact wp_okE rfl | exact wpS_badE rfl | exact wpS_nxE rfl | (simp; done)
      | some d =>
        simp only [po_some]
        by_cases h : okI t = true
        · rw [if_pos h, wpS_nx]; simp [h]
        · rw [if_neg h, wpS_bad]; simp [h]
@[simp] theorem x_retN : wpS (exec Φ n .retN s w) P ↔ P.T .non w := by rw [exec]; first | exact Iff.rfl | exact wp_badE rfl | exact wp_okE rfl | exact wpS_badE rfl | exact wpS_nxE rfl | (simp; done)
@[simp] theorem x_brk : wpS (exec Φ n .brk s w) P ↔ P.B s w := by rw [exec]; first | exact Iff.rfl | exact wp_badE rfl | exact wp_okE rfl | exact wpS_badE rfl | exact wpS_nxE rfl | (simp; done)
@[simp] theorem x_cnt : wpS (exec Φ n .cnt s w) P ↔ P.C s w := by rw [exec]; first | exact Iff.rfl | exact wp_badE rfl | exact wp_okE rfl | exact wpS_badE rfl | exact wpS_nxE rfl | (simp; done)
@[simp] theorem x_pas : wpS (exec Φ n .pas s w) P ↔ P.N s w := by rw [exec]; first | exact Iff.rfl | exact wp_badE rfl | exact wp_okE rfl | exact wpS_badE rfl | exact wpS_nxE rfl | (simp; done)
/-- a turn of for -/
def forB (Φ : Fns) (n : Nat) (tg : Tg) (b : LSs) (d : D) (s : SEnv) (w : W) : Rs := match setT tg d s with
  | some s' => execs Φ n b s' w
  | none => .bad
@[simp] theorem x_forB {d : D} : wpS (forB Φ n tg b d s w) P ↔ po (setT tg d s) fun s => wpS (execs Φ n b s w) P := by
  unfold forB
  cases setT tg d s <;> first | exact Iff.rfl | exact wp_badE rfl | exact wp_okE rfl | exact wpS_badE rfl | exact wpS_nxE rfl | (simp; done)
@[simp] theorem x_for {it : LI} : wpS (exec Φ n (.for_ fz tg it b) s w) P ↔ wp (evi Φ (view (frz fz s)) it w) P.Z fun ds w => wpS (forGo (forB Φ n tg b) ds (frz fz s) w) P := by
  simp only [exec, wpS_then]
  first | exact Iff.rfl | exact wp_badE rfl | exact wp_okE rfl | exact wpS_badE rfl | exact wpS_nxE rfl | (simp; done)
/-- a turn of for over a range -/
def forRB (Φ : Fns) (n i : Nat) (b : LSs) (d : D) (s : SEnv) (w : W) : Rs := execs Φ n b (s.set i (.val d)) w
@[simp] theorem x_forR : wpS (exec Φ n (.forR kp fz i lo hi b) s w) P ↔ wp (evoF (isNop lo) (fun w => evS Φ kp fz lo s w) w) P.Z fun l w => wp (evS Φ kp [] hi (frz fz s) w) P.Z fun h w => ip h fun h => (okI (l.getD 0) && okI h) = true ∧ wpS (forGo (forRB Φ n i b) (rngD (l.getD 0) (h - l.getD 0).toNat) (frz fz s) w) P := by
  simp only [exec, wpS_then, w_toI]
  refine iff_of_eq (congrArg _ (funext fun l => funext fun w => congrArg _ (funext fun h => funext fun w => congrArg _ (funext fun h => propext ?_))))
  by_cases q : (okI (l.getD 0) && okI h) = true
  · rw [if_pos q, q]; simp only [true_and]; first | exact Iff.rfl | exact wp_badE rfl | exact wp_okE rfl | exact wpS_badE rfl | exact wpS_nxE rfl | (simp; done)
  · rw [if_neg q, wpS_bad]; exact ⟨fun h => h.elim, fun h => q h.1⟩
@[simp] theorem wo_nop {f : W → R (D × W)} {Q : Option Int → W → Prop} : wp (evoF true f w) Z Q ↔ Q none w := wp_okE rfl
@[simp] theorem wo_ex {f : W → R (D × W)} {Q : Option Int → W → Prop} : wp (evoF false f w) Z Q ↔ wp (f w) Z fun x w => ip x fun i => Q (some i) w := by
  simp only [evoF, wp_bind]
  refine iff_of_eq (congrArg _ (funext fun x => funext fun w => propext ?_))
  cases x <;> first | exact Iff.rfl | exact wp_badE rfl | exact wp_okE rfl | exact wpS_badE rfl | exact wpS_nxE rfl | (simp; done)
@[simp] theorem x_whl : wpS (exec Φ n (.whl kp fz c b) s w) P ↔ wpS (whGo (fun s w => toB (evS Φ kp fz c s w)) fz (fun s w => execs Φ n b s w) n s w) P := by rw [exec]
/-- what stays in each turn of for -/
theorem for_inv {f : D → SEnv → W → Rs} {I : Nat → SEnv → W → Prop} : ∀ {ds : List D} {s : SEnv} {w : W}, I 0 s w → (∀ i d, ds[i]? = some d → ∀ s w, I i s w → wpS (f d s w) { P with N := I (i + 1), C := I (i + 1), B := P.N }) → (∀ s w, I ds.length s w → P.N s w) → wpS (forGo f ds s w) P
  | [], s, w, h0, _, he => by rw [forGo, wpS_nx]; exact he _ _ h0
  | d :: ds, s, w, h0, hs, he => by
    rw [forGo, wpS_turn]
    have go : ∀ s w, I 1 s w → wpS (forGo f ds s w) P := fun s w h1 =>
      for_inv (I := fun i => I (i + 1)) h1 (fun i d hd s w hi => hs (i + 1) d (by simpa using hd) s w hi) (fun s w h => he s w (by simpa using h))
    exact wpS_mono (hs 0 d rfl s w h0) (fun _ _ h => h) go (fun _ _ h => h) (fun _ _ h => h) go
/-- what stays in each turn of while; a number that falls -/
theorem wh_inv {f : SEnv → W → R (Bool × W)} {g : SEnv → W → Rs} {I : Nat → SEnv → W → Prop} (hs : ∀ m s w, I m s w → wp (f s w) P.Z fun k w => two k (wpS (g (frz fz s) w) { P with N := fun s w => ∃ m', m' < m ∧ I m' s w, C := fun s w => ∃ m', m' < m ∧ I m' s w, B := P.N }) (P.N (frz fz s) w)) :
    ∀ (n m : Nat) (s : SEnv) (w : W), I m s w → m < n → wpS (whGo f fz g n s w) P
  | 0, m, s, w, _, hl => absurd hl (by omega)
  | n + 1, m, s, w, h, hl => by
    rw [whGo, wpS_then]
    refine wp_mono (hs m s w h) fun k w1 hk => ?_
    cases k with
    | false => exact (wpS_nxE rfl).mpr (two_f.mp hk)
    | true =>
      have hk := two_t.mp hk
      show wpS ((g (frz fz s) w1).turn (whGo f fz g n)) P
      rw [wpS_turn]
      have go : ∀ s w, (∃ m', m' < m ∧ I m' s w) → wpS (whGo f fz g n s w) P := fun s w ⟨m', l', h'⟩ => wh_inv hs n m' s w h' (by omega)
      exact wpS_mono hk (fun _ _ h => h) go (fun _ _ h => h) (fun _ _ h => h) go
end
/-! ### calls -/
def PoF (Z : Zp) (Q : D → W → Prop) : Po := ⟨Z, fun _ w => Q .non w, Q, fun _ _ => False, fun _ _ => False⟩
theorem wp_run {tb : List (Nat × Rn)} {m k f : Nat} {d : FnD} {args : List D} {w : W} {Z : Zp} {Q : D → W → Prop} (h : lkN tb f = some (.df d)) (hl : args.length = d.np) :
    wp (run tb m (k + 1) f args w) Z Q ↔ wpS (execs (run tb m k) m d.body (args.map .val ++ List.replicate (d.nl - d.np) .no) w) (PoF Z Q) := by
  have : run tb m (k + 1) f args w = runB (run tb m k) m d args w := by
    show (match lkN tb f with | some (.df d) => runB (run tb m k) m d args w | some .any => anyP args w | none => .bad) = _
    rw [h]
  rw [this, runB, if_pos hl]
  cases execs (run tb m k) m d.body (args.map .val ++ List.replicate (d.nl - d.np) .no) w <;> (simp; try exact Iff.rfl) <;> exact fun h => h
theorem wp_enter {tb : List (Nat × Rn)} {m k f n np nl : Nat} {b : LSs} {args : List D} {w : W} {Z : Zp} {Q : D → W → Prop} (h : lkN tb f = some (.df ⟨np, nl, b⟩)) (hl : args.length = np) (hk : n + 1 ≤ k)
    (q : ∀ k, n ≤ k → wpS (execs (run tb m k) m b (args.map .val ++ List.replicate (nl - np) .no) w) (PoF Z Q)) : wp (run tb m k f args w) Z Q := by
  obtain ⟨k, rfl⟩ : ∃ k', k = k' + 1 := ⟨k - 1, by omega⟩
  exact (wp_run h hl).mpr (q k (by omega))
/-- the next draw -/
def dealOk (n : Nat) (w : W) : Prop := ∃ cs b, w[n]? = some (.deal cs b) ∧ cs.length ≤ 1000
theorem stripZ_len (cs : List Int) : (stripZ cs).length ≤ cs.length := by
  unfold stripZ
  have := (List.dropWhile_sublist (fun c => c == 0) (l := cs.reverse)).length_le
  simpa using this
theorem wp_any {tb : List (Nat × Rn)} {m k f : Nat} {w : W} {n : Nat} {bound : Int} {Z : Zp} {Q : D → W → Prop} (h : lkN tb f = some .any) (hw : dealOk n w) (hb : 0 < bound ∧ bound < 1073741824)
    (q : ∀ (i : Int) (w' : W), 0 ≤ i → i < bound → dealOk n w' → w'.length = w.length → Q (.int i) w') : wp (run tb m (k + 1) f [.ob n, .int bound] w) Z Q := by
  have : run tb m (k + 1) f [.ob n, .int bound] w = anyP [.ob n, .int bound] w := by
    show (match lkN tb f with | some (.df d) => runB (run tb m k) m d _ w | some .any => anyP _ w | none => .bad) = _
    rw [h]
  obtain ⟨cs, b, e1, e2⟩ := hw
  rw [this]
  simp only [anyP, e1]
  rw [if_pos ⟨hb.1, hb.2, e2⟩, wp_ok]
  have hn : n < w.length := (List.getElem?_eq_some_iff.mp e1).1
  have sl := stripZ_len cs
  refine q _ _ ?_ ?_ ?_ (by simp)
  · unfold anyC; split <;> exact Int.emod_nonneg _ (by omega)
  · unfold anyC; split <;> exact Int.emod_lt_of_pos _ hb.1
  · unfold anyC
    split
    · rename_i r hr
      refine ⟨_, _, by rw [List.getElem?_set_self hn], ?_⟩
      simp; omega
    · exact ⟨_, _, by rw [List.getElem?_set_self hn], by simp⟩
end LL
/-! == LL26 == -/
set_option Elab.async false
set_option linter.all false
set_option maxRecDepth 100000
set_option maxHeartbeats 1000000
/-! LL, part 26: data of a size -/
namespace LL
open PySem
def lim : Nat := 1000000
mutual
/-- plain, no list and no text too long -/
def D.gd : D → Bool
  | .non | .bl _ | .int _ => true
  | .str s => decide (s.length ≤ lim)
  | .tup xs | .lst xs => decide (xs.length ≤ lim) && D.gds xs
  | _ => false
def D.gds : List D → Bool
  | [] => true
  | x :: xs => D.gd x && D.gds xs
end
mutual
theorem gd_plain : ∀ d : D, d.gd = true → d.plain = true
  | .non, _ => rfl
  | .bl _, _ => rfl
  | .int _, _ => rfl
  | .str _, _ => rfl
  | .tup xs, h => by rw [D.gd, Bool.and_eq_true] at h; rw [D.plain]; exact gds_plains xs h.2
  | .lst xs, h => by rw [D.gd, Bool.and_eq_true] at h; rw [D.plain]; exact gds_plains xs h.2
  | .dct _ _, h => by cases h
  | .ob _, h => by cases h
  | .scr _, h => by cases h
theorem gds_plains : ∀ ds : List D, D.gds ds = true → D.plains ds = true
  | [], _ => rfl
  | d :: ds, h => by rw [D.gds, Bool.and_eq_true] at h; rw [D.plains, gd_plain d h.1, gds_plains ds h.2]; rfl
end
theorem gds_iff {ds : List D} : D.gds ds = true ↔ ∀ d ∈ ds, d.gd = true := by
  induction ds with
  | nil => simp [D.gds]
  | cons d ds ih => simp [D.gds, ih]
theorem plains_iff {ds : List D} : D.plains ds = true ↔ ∀ d ∈ ds, d.plain = true := by
  induction ds with
  | nil => simp [D.plains]
  | cons d ds ih => simp [D.plains, ih]
theorem depths_le {ds : List D} {n : Nat} : D.depths ds ≤ n ↔ ∀ d ∈ ds, d.depth ≤ n := by
  induction ds with
  | nil => simp [D.depths]
  | cons d ds ih => simp [D.depths, ih, Nat.max_le]
theorem toBls_map {α : Type} (p : α → Bool) (ds : List α) : D.toBls (ds.map fun d => .bl (p d)) = some (ds.map p) := by
  induction ds with
  | nil => rfl
  | cons d ds ih => simp [D.toBls, ih]
section
variable {w : W} {Q : D → W → Prop} {f : D → W → R (Option D × W)} {p : D → Bool} {ds : List D}
theorem comp_all (h : ∀ d ∈ ds, wp (f d w) noZ fun o w' => o = some (.bl (p d)) ∧ w' = w) (hl : ds.length ≤ big) (k : Q (.bl (ds.all p)) w) : wp (compGo f ds w) noZ fun xs w => xs.length ≤ big ∧ po (biD .all [.lst xs]) fun z => Q z w := by
  refine comp_pure (g := fun d => some (.bl (p d))) h ?_
  have e : ds.filterMap (fun d => some (D.bl (p d))) = ds.map fun d => .bl (p d) := by induction ds <;> simp_all
  rw [e]
  refine ⟨by simpa using hl, ?_⟩
  simp only [biD, toBls_map, Option.map_some, po_some]
  simpa [List.all_map] using k
theorem eq_nil {xs : List D} {Q : Bool → Prop} (h : Q xs.isEmpty) : po (cmD .eq (.lst xs) (.lst [])) Q := by
  cases xs with
  | nil => exact h
  | cons x xs => simpa [cmD, eqD, D.eqOk, D.eqv, D.eqvs] using h
theorem ne_nil {xs : List D} {Q : Bool → Prop} (h : Q (!xs.isEmpty)) : po (cmD .ne (.lst xs) (.lst [])) Q := by
  cases xs with
  | nil => exact h
  | cons x xs => simpa [cmD, eqD, D.eqOk, D.eqv, D.eqvs] using h
theorem filter_none (g : D → D) : (ds.filterMap fun d => if p d then none else some (g d)).isEmpty = ds.all p := by
  induction ds with
  | nil => rfl
  | cons d ds ih => cases h : p d <;> simp [h] <;> simpa using ih
theorem comp_none {g : D → D} (h : ∀ d ∈ ds, wp (f d w) noZ fun o w' => o = (if p d then none else some (g d)) ∧ w' = w) (hl : ds.length ≤ big) (k : Q (.bl (ds.all p)) w) : wp (compGo f ds w) noZ fun xs w => xs.length ≤ big ∧ po (cmD .eq (.lst xs) (.lst [])) fun t => Q (.bl t) w := by
  refine comp_pure (g := fun d => if p d then none else some (g d)) h ?_
  refine ⟨Nat.le_trans (List.length_filterMap_le _ _) hl, eq_nil ?_⟩
  rw [filter_none]; exact k
end
section
variable {i j : Int} {x y : Str} {ds es : List D} {Q : Bool → Prop} {b c : Bool}
@[simp] theorem cq_i : cmD .eq (.int i) (.int j) = some (decide (i = j)) := by simp [cmD, eqD, D.eqOk, D.eqv, D.plain, D.depth]; rw [Bool.eq_iff_iff]; simp
@[simp] theorem cn_i : cmD .ne (.int i) (.int j) = some (!decide (i = j)) := by simp [cmD, eqD, D.eqOk, D.eqv, D.plain, D.depth]; rw [Bool.eq_iff_iff]; simp
@[simp] theorem cq_s : cmD .eq (.str x) (.str y) = some (decide (x = y)) := by simp [cmD, eqD, D.eqOk, D.eqv, D.plain, D.depth]; first | rfl | (rw [Bool.eq_iff_iff]; simp)
@[simp] theorem cn_s : cmD .ne (.str x) (.str y) = some (!decide (x = y)) := by simp [cmD, eqD, D.eqOk, D.eqv, D.plain, D.depth]; first | rfl | (rw [Bool.eq_iff_iff]; simp)
@[simp] theorem cq_b : cmD .eq (.bl b) (.bl c) = some (b == c) := by simp [cmD, eqD, D.eqOk, D.eqv, D.plain, D.depth]
@[simp] theorem cn_b : cmD .ne (.bl b) (.bl c) = some (b != c) := by simp [cmD, eqD, D.eqOk, D.eqv, D.plain, D.depth, bne]
@[simp] theorem clt_i : cmD .lt (.int i) (.int j) = some (decide (i < j)) := rfl
@[simp] theorem cle_i : cmD .le (.int i) (.int j) = some (decide (i ≤ j)) := rfl
@[simp] theorem cgt_i : cmD .gt (.int i) (.int j) = some (decide (j < i)) := rfl
@[simp] theorem cge_i : cmD .ge (.int i) (.int j) = some (decide (j ≤ i)) := rfl
@[simp] theorem len_t : biD .len [.tup ds] = some (.int ds.length) := rfl
@[simp] theorem len_l : biD .len [.lst ds] = some (.int ds.length) := rfl
@[simp] theorem len_s : biD .len [.str x] = if x.length ≤ big then some (.int x.length) else none := rfl
@[simp] theorem isi_ {ts : List Ty} {d : D} : biD (.isi ts) [d] = (isTys d ts).map .bl := rfl
@[simp] theorem add_i : opD .add (.int i) (.int j) = some (.int (i + j)) := rfl
@[simp] theorem sub_i : opD .sub (.int i) (.int j) = some (.int (i - j)) := rfl
@[simp] theorem aug_a : augD .add (.int i) (.int j) = some (.int (i + j)) := rfl
@[simp] theorem aug_s : augD .sub (.int i) (.int j) = some (.int (i - j)) := rfl
end
section
variable {α : Type} {a b c d : α} {xs : List α}
theorem atI_nat {xs : List α} {n : Nat} {x : α} (h : xs[n]? = some x) : L2.atI xs (n : Int) = some x := by
  have := (List.getElem?_eq_some_iff.mp h).1
  unfold L2.atI L2.ixN
  rw [if_pos (by omega), if_pos (by omega)]
  simpa using h
theorem ixt {ds : List D} {n : Nat} {x : D} (h : ds[n]? = some x) : ixD (.tup ds) (.int n) = some x := atI_nat h
theorem ixl {ds : List D} {n : Nat} {x : D} (h : ds[n]? = some x) : ixD (.lst ds) (.int n) = some x := atI_nat h
@[simp] theorem ix0 {x : D} {ds : List D} : ixD (.tup (x :: ds)) (.int 0) = some x := ixt (n := 0) rfl
@[simp] theorem ix1 {x y : D} {ds : List D} : ixD (.tup (x :: y :: ds)) (.int 1) = some y := ixt (n := 1) rfl
@[simp] theorem ix2 {x y z : D} {ds : List D} : ixD (.tup (x :: y :: z :: ds)) (.int 2) = some z := ixt (n := 2) rfl
theorem ix4 {x y z u v : D} {ds : List D} : ixD (.tup (x :: y :: z :: u :: v :: ds)) (.int 4) = some v := ixt (n := 4) rfl
theorem ixL0 {x : D} {ds : List D} : ixD (.lst (x :: ds)) (.int 0) = some x := ixl (n := 0) rfl
theorem ixL1 {x y : D} {ds : List D} : ixD (.lst (x :: y :: ds)) (.int 1) = some y := ixl (n := 1) rfl
theorem ixL2 {x y z : D} {ds : List D} : ixD (.lst (x :: y :: z :: ds)) (.int 2) = some z := ixl (n := 2) rfl
theorem ixL3 {x y z u : D} {ds : List D} : ixD (.lst (x :: y :: z :: u :: ds)) (.int 3) = some u := ixl (n := 3) rfl
theorem ixL4 {x y z u v : D} {ds : List D} : ixD (.lst (x :: y :: z :: u :: v :: ds)) (.int 4) = some v := ixl (n := 4) rfl
@[simp] theorem ix3 {x y z u : D} {ds : List D} : ixD (.tup (x :: y :: z :: u :: ds)) (.int 3) = some u := ixt (n := 3) rfl
end
section
variable {a b c : LE} {es : LEs}
@[simp] theorem np_v {i : Nat} : isNop (.v i) = false := rfl
@[simp] theorem np_c {d : D} : isNop (.c d) = false := rfl
@[simp] theorem np_g {x : Str} {d : D} : isNop (.g x d) = false := rfl
@[simp] theorem np_op {o : Op2} : isNop (.op o a b) = false := rfl
@[simp] theorem np_cm {o : Cm} : isNop (.cm o a b) = false := rfl
@[simp] theorem np_chain {o p : Cm} : isNop (.chain o p a b c) = false := rfl
@[simp] theorem np_not : isNop (.not_ a) = false := rfl
@[simp] theorem np_and : isNop (.and_ a b) = false := rfl
@[simp] theorem np_or : isNop (.or_ a b) = false := rfl
@[simp] theorem np_ite : isNop (.ite a b c) = false := rfl
@[simp] theorem np_neg : isNop (.neg a) = false := rfl
@[simp] theorem np_ix : isNop (.ix a b) = false := rfl
@[simp] theorem np_call {f : Nat} : isNop (.call f es) = false := rfl
@[simp] theorem np_bi {k : Bi} : isNop (.bi k es) = false := rfl
@[simp] theorem np_nop : isNop .nop = true := rfl
@[simp] theorem wc_any {Φ : Fns} {env : Env} {Z : Zp} {w : W} {tg : Tg} {cond elt : LE} {own : List Nat} {x : D} {Q : Option D → W → Prop} : wp (compB Φ env tg cond elt own x w) Z Q ↔ po (bindT tg x (wipeE env own)) fun env' => two (isNop cond) (wp (ev Φ env' elt w) Z fun y w => Q (some y) w) (wp (ev Φ env' cond w) Z fun y w => bp y fun t => two t (wp (ev Φ env' elt w) Z fun y w => Q (some y) w) (Q none w)) := by
  cases h : isNop cond with
  | true =>
    have : cond = .nop := by cases cond <;> first | rfl | cases h
    subst this
    simp only [two_t, wc_all]
  | false => simp only [two_f, wc_if h]
@[simp] theorem we_any {Φ : Fns} {env : Env} {Z : Zp} {w : W} {e : LE} {Q : Option Int → W → Prop} : we Φ env e w Z Q ↔ two (isNop e) (Q none w) (wp (ev Φ env e w) Z fun x w => ip x fun i => Q (some i) w) := by
  cases h : isNop e with
  | true =>
    have : e = .nop := by cases e <;> first | rfl | cases h
    subst this
    simp only [two_t, we_nop]
  | false => simp only [two_f, we_ex h]
end
/-- what isinstance says of plain data -/
def tyB : D → Ty → Bool
  | .non, _ => false
  | .bl _, .bool => true
  | .bl _, .int => true
  | .bl _, _ => false
  | .int _, t => t == .int
  | .str _, t => t == .str
  | .tup _, t => t == .tuple
  | .lst _, t => t == .list
  | _, _ => false
theorem isTy_plain {d : D} (h : d.plain = true) (t : Ty) : isTy d t = some (tyB d t) := by
  cases d with
  | bl b => cases t <;> rfl
  | _ => first | rfl | cases h
theorem toNat_inj : ∀ {xs ys : List Char}, xs.map Char.toNat = ys.map Char.toNat → xs = ys
  | [], [], _ => rfl
  | [], _ :: _, h => by cases h
  | _ :: _, [], h => by cases h
  | x :: xs, y :: ys, h => by
    rw [List.map_cons, List.map_cons, List.cons.injEq] at h
    have e : x = y := Char.ext (UInt32.toNat_inj.mp h.1)
    rw [e, toNat_inj h.2]
@[simp] theorem ofS_inj {a b : String} : Str.ofString a = Str.ofString b ↔ a = b := by
  refine ⟨fun h => ?_, fun h => h ▸ rfl⟩
  rw [Str.ofString_eq_toList, Str.ofString_eq_toList] at h
  have := congrArg (fun s : Str => s.cps.toList) h
  exact String.ext (toNat_inj (by simpa using this))
section
variable {i j : Nat} {is js : List Nat} {s : SEnv} {env : Env} {d : D} {ds : List D} {x : Slot} {xs : List Slot} {tg : Tg} {Z : Zp} {Q : D → W → Prop}
@[simp] theorem frz_nil : frz [] s = s := rfl
@[simp] theorem frz_cons : frz (i :: is) s = frz is (frz1 i s) := rfl
@[simp] theorem frz1_def : frz1 i s = match s[i]? with | some (.own ds) => s.set i (.val (.lst ds)) | _ => s := rfl
@[simp] theorem view_def : view s = s.map slotV := rfl
@[simp] theorem slotV_val : slotV (.val d) = some d := rfl
@[simp] theorem slotV_no : slotV .no = none := rfl
@[simp] theorem slotV_own : slotV (.own ds) = none := rfl
@[simp] theorem toSlot_f : toSlot false d = some (.val d) := rfl
@[simp] theorem toSlot_t : toSlot true (.lst ds) = some (.own ds) := rfl
@[simp] theorem putSlots_nil : putSlots [] [] s = some s := rfl
@[simp] theorem putSlots_cons : putSlots (i :: is) (x :: xs) s = if i < s.length then putSlots is xs (s.set i x) else none := rfl
@[simp] theorem setT_1 : setT (.one i) d s = some (s.set i (.val d)) := rfl
@[simp] theorem setT_many : setT (.many is) (.tup ds) s = setTs is ds s := rfl
@[simp] theorem setTs_nil : setTs [] [] s = some s := rfl
@[simp] theorem setTs_cons : setTs (i :: is) (d :: ds) s = setTs is ds (s.set i (.val d)) := rfl
@[simp] theorem setTs_cn : setTs (i :: is) [] s = none := rfl
@[simp] theorem setTs_nc : setTs [] (d :: ds) s = none := rfl
@[simp] theorem bindT_one : bindT (.one i) d env = some (env.set i (some d)) := rfl
@[simp] theorem bindT_many : bindT (.many is) (.tup ds) env = bindTs is ds env := rfl
@[simp] theorem bindTs_nil : bindTs [] [] env = some env := rfl
@[simp] theorem bindTs_cons : bindTs (i :: is) (d :: ds) env = bindTs is ds (env.set i (some d)) := rfl
@[simp] theorem bindTs_cn : bindTs (i :: is) [] env = none := rfl
@[simp] theorem bindTs_nc : bindTs [] (d :: ds) env = none := rfl
@[simp] theorem isTys_nil : isTys d [] = some false := rfl
@[simp] theorem isTys_cons {t : Ty} {ts : List Ty} : isTys d (t :: ts) = (isTy d t).bind fun b => if b then some true else isTys d ts := rfl
@[simp] theorem wipeE_nil : wipeE env [] = env := rfl
@[simp] theorem wipeE_cons : wipeE env (i :: is) = (wipeE env is).set i none := rfl
@[simp] theorem ownAt_def : ownAt s i = match s[i]? with | some (.own ds) => some ds | _ => none := rfl
@[simp] theorem valAt_def : valAt s i = match s[i]? with | some (.val d) => some d | _ => none := rfl
@[simp] theorem popT_some : popT (some tg) d s = setT tg d s := rfl
@[simp] theorem popT_none : popT none d s = some s := rfl
@[simp] theorem PoF_Z : (PoF Z Q).Z = Z := rfl
@[simp] theorem PoF_T : (PoF Z Q).T = Q := rfl
@[simp] theorem PoF_N : (PoF Z Q).N = fun _ w => Q .non w := rfl
end
end LL
/-! == P01c == -/
set_option Elab.async false
set_option linter.all false
set_option maxRecDepth 1000000
set_option maxHeartbeats 1000000
namespace LL
open PySem
variable {tb : List (Nat × Rn)} {m k : Nat} {w : W} {Z : Zp} {Q : D → W → Prop}
def isI : D → Bool
  | .int _ => true
  | _ => false
/-- 0 <= value < many -/
def idx (d : D) (n : Int) : Bool := match d with
  | .int i => decide (0 ≤ i) && decide (i < n)
  | _ => false
theorem c_is_integer [Cis_integer tb] (hk : 1 ≤ k) {d : D} (h : d.plain = true) (q : Q (.bl (isI d)) w) : wp (run tb m k Fis_integer [d] w) Z Q := by
  refine wp_enter Cis_integer.own rfl hk fun k hk => ?_
  unfold bis_integer
  cases d <;> first | (cases h; done) | (simp [isTy]; exact q)
theorem c_law_is_int [C_law_is_int tb] (hk : 1 ≤ k) {d : D} (h : d.plain = true) (q : Q (.bl (isI d)) w) : wp (run tb m k F_law_is_int [d] w) Z Q := by
  refine wp_enter C_law_is_int.own rfl hk fun k hk => ?_
  unfold b_law_is_int
  cases d <;> first | (cases h; done) | (simp [isTy]; exact q)
theorem c_is_index [Cis_index tb] (hk : 2 ≤ k) {d : D} {n : Int} (h : d.plain = true) (q : Q (.bl (idx d n)) w) : wp (run tb m k Fis_index [d, .int n] w) Z Q := by
  refine wp_enter Cis_index.own rfl hk fun k hk => ?_
  unfold bis_index
  simp []
  refine c_is_integer (by omega) h ?_
  cases d with
  | int i =>
    simp [isI, idx, cmD, ordD] at q ⊢
    by_cases h0 : 0 ≤ i <;> simp [h0] at q ⊢ <;> exact q
  | _ => simp [isI]; exact q
def rowB (d : D) (many bound : Int) : Bool := match d with
  | .tup ds => decide ((ds.length : Int) = many) && ds.all (idx · bound)
  | _ => false
theorem gd_tup {ds : List D} (h : (D.tup ds).gd = true) : ds.length ≤ lim ∧ ∀ d ∈ ds, d.gd = true := by
  rw [D.gd, Bool.and_eq_true] at h; exact ⟨of_decide_eq_true h.1, gds_iff.mp h.2⟩
theorem gd_lst {ds : List D} (h : (D.lst ds).gd = true) : ds.length ≤ lim ∧ ∀ d ∈ ds, d.gd = true := by
  rw [D.gd, Bool.and_eq_true] at h; exact ⟨of_decide_eq_true h.1, gds_iff.mp h.2⟩
theorem gd_str {s : Str} (h : (D.str s).gd = true) : s.length ≤ lim := of_decide_eq_true h
theorem lim_big {n : Nat} (h : n ≤ lim) : n ≤ big := Nat.le_trans h (by decide)
theorem c_is_row_of [Cis_row_of tb] (hk : 3 ≤ k) {d : D} {many bound : Int} (h : d.gd = true) (q : Q (.bl (rowB d many bound)) w) : wp (run tb m k Fis_row_of [d, .int many, .int bound] w) Z Q := by
  refine wp_enter Cis_row_of.own rfl hk fun k hk => ?_
  unfold bis_row_of
  cases d with
  | tup ds =>
    obtain ⟨hl, hd⟩ := gd_tup h
    simp [isTy]
    by_cases hm : (ds.length : Int) = many
    · simp [hm, itemsD]
      refine comp_all (p := (idx · bound)) (fun d hm' => ?_) (lim_big hl) ?_
      · simp []
        exact c_is_index (by omega) (gd_plain _ (hd _ hm')) (by simp)
      · simpa [rowB, hm] using q
    · simp [hm]
      simpa [rowB, hm] using q
  | _ => first | (cases h; done) | (simp [isTy]; exact q)
theorem c_law_is_row [C_law_is_row tb] (hk : 3 ≤ k) {d : D} {many bound : Int} (h : d.gd = true) (q : Q (.bl (rowB d many bound)) w) : wp (run tb m k F_law_is_row [d, .int many, .int bound] w) Z Q := by
  refine wp_enter C_law_is_row.own rfl hk fun k hk => ?_
  unfold b_law_is_row
  cases d with
  | tup ds =>
    obtain ⟨hl, hd⟩ := gd_tup h
    simp [isTy]
    by_cases hm : (ds.length : Int) = many
    · simp [hm, itemsD]
      refine comp_none (p := (idx · bound)) (g := id) (fun d hm' => ?_) (lim_big hl) ?_
      · simp []
        refine c_law_is_int (by omega) (gd_plain _ (hd _ hm')) ?_
        cases d with
        | int i =>
          simp [isI, idx, cmD, ordD]
          by_cases h0 : 0 ≤ i <;> by_cases h1 : i < bound <;> simp [h0, h1] <;> omega
        | _ => simp [isI, idx]
      · simpa [rowB, hm] using q
    · simp [hm]
      simpa [rowB, hm] using q
  | _ => first | (cases h; done) | (simp [isTy]; exact q)

def widths : Int → Int
  | 0 => 1
  | 1 => 2
  | 2 => 4
  | 3 => 8
  | _ => 16
def formC (x many marks rows : D) : Bool := match x, rows with
  | .str x, .tup rows => decide (x = "set") && idx many 5 && decide ((1 : Int) ≤ rows.length) && decide ((rows.length : Int) ≤ 1000) && rowB marks rows.length 2 && rows.all (fun r => rowB r (match many with | .int i => widths i | _ => 0) rows.length)
  | _, _ => false
def formB (d : D) : Bool := match d with
  | .tup [x, many, marks, rows] => formC x many marks rows
  | _ => false
theorem idx_elim {d : D} {n : Int} (h : idx d n = true) : ∃ i, d = .int i ∧ 0 ≤ i ∧ i < n := by
  cases d with
  | int i => simp [idx] at h; exact ⟨i, rfl, h⟩
  | _ => cases h
theorem c_is_set_form [Cis_set_form tb] (hk : 4 ≤ k) {d : D} (h : d.gd = true) (q : Q (.bl (formB d)) w) : wp (run tb m k Fis_set_form [d] w) Z Q := by
  refine wp_enter Cis_set_form.own rfl hk fun k hk => ?_
  unfold bis_set_form
  cases d with
  | tup ds =>
    obtain ⟨hl, hd⟩ := gd_tup h
    match ds, hl, hd, q, h with
    | [], _, _, q, _ => simp [isTy]; exact q
    | [_], _, _, q, _ => simp [isTy]; exact q
    | [_, _], _, _, q, _ => simp [isTy]; exact q
    | [_, _, _], _, _, q, _ => simp [isTy]; exact q
    | _ :: _ :: _ :: _ :: _ :: ds, _, _, q, _ => 
      have e : ¬ ((ds.length : Int) + 1 + 1 + 1 + 1 + 1 = 4) := by omega
      simp [isTy, e]
      exact q
    | [x, many, marks, rows], _, hd, q, _ => 
      have h1 := hd x (by simp)
      have h2 := hd many (by simp)
      have h3 := hd marks (by simp)
      have h4 := hd rows (by simp)
      cases x with
      | str x =>
        by_cases hx : x = "set"
        · simp [isTy, hx]
          refine c_is_index (by omega) (gd_plain _ h2) ?_
          cases hi : idx many 5 with
          | false =>
            simp [hi]
            cases rows <;> simpa [formB, formC, hi] using q
          | true =>
            obtain ⟨i, rfl, i0, i5⟩ := idx_elim hi
            cases rows with
            | tup rs =>
              obtain ⟨rl, rd⟩ := gd_tup h4
              by_cases n1 : (1 : Int) ≤ rs.length
              · by_cases n2 : (rs.length : Int) ≤ 1000
                · simp [isTy, n1, n2]
                  refine c_is_row_of (by omega) h3 ?_
                  cases hr : rowB marks rs.length 2 with
                  | false => simp; simpa [formB, formC, hx, hi, n1, n2, hr] using q
                  | true =>
                    simp [itemsD]
                    refine comp_all (p := fun r => rowB r (widths i) rs.length) (fun d hm' => ?_) (lim_big rl) ?_
                    · simp []
                      have : i = 0 ∨ i = 1 ∨ i = 2 ∨ i = 3 ∨ i = 4 := by omega
                      rcases this with rfl | rfl | rfl | rfl | rfl <;> simp [ix0, ix1, ix2, ix3, ix4] <;> exact c_is_row_of (by omega) (rd _ hm') ⟨rfl, rfl⟩
                    · simpa [formB, formC, hx, hi, n1, n2, hr] using q
                · simp [isTy, n1, n2]
                  simpa [formB, formC, hx, hi, n1, n2] using q
              · simp [isTy, n1]
                simpa [formB, formC, hx, hi, n1] using q
            | _ => first | (cases h4; done) | (simp [isTy]; exact q)
        · simp [isTy, hx]
          cases rows <;> simpa [formB, formC, hx] using q
      | _ => first | (cases h1; done) | (simp [isTy]; exact q)
  | _ => first | (cases h; done) | (simp [isTy]; exact q)
end LL
/-! == P01d == -/
set_option Elab.async false
set_option linter.all false
set_option maxRecDepth 1000000
set_option maxHeartbeats 1000000
namespace LL
open PySem
variable {tb : List (Nat × Rn)} {m k : Nat} {w : W} {Z : Zp} {Q : D → W → Prop}
theorem c_law_is_form [C_law_is_form tb] (hk : 4 ≤ k) {d : D} (h : d.gd = true) (q : Q (.bl (formB d)) w) : wp (run tb m k F_law_is_form [d] w) Z Q := by
  refine wp_enter C_law_is_form.own rfl hk fun k hk => ?_
  unfold b_law_is_form
  cases d with
  | tup ds =>
    obtain ⟨hl, hd⟩ := gd_tup h
    match ds, hl, hd, q, h with
    | [], _, _, q, _ => simp [isTy]; exact q
    | [_], _, _, q, _ => simp [isTy]; exact q
    | [_, _], _, _, q, _ => simp [isTy]; exact q
    | [_, _, _], _, _, q, _ => simp [isTy]; exact q
    | _ :: _ :: _ :: _ :: _ :: ds, _, _, q, _ => 
      have e : ¬ ((ds.length : Int) + 1 + 1 + 1 + 1 + 1 = 4) := by omega
      simp [isTy, e]
      exact q
    | [x, many, marks, rows], _, hd, q, _ => 
      have h1 := hd x (by simp)
      have h2 := hd many (by simp)
      have h3 := hd marks (by simp)
      have h4 := hd rows (by simp)
      cases x with
      | str x =>
        by_cases hx : x = "set"
        · simp [isTy, hx]
          refine c_law_is_int (by omega) (gd_plain _ h2) ?_
          cases many with
          | int i =>
            simp [isI, cle_i]
            by_cases i0 : 0 ≤ i
            · by_cases i5 : i ≤ 4
              · cases rows with
                | tup rs =>
                  have i5' : i < 5 := by omega
                  obtain ⟨rl, rd⟩ := gd_tup h4
                  by_cases n1 : (1 : Int) ≤ rs.length
                  · by_cases n2 : (rs.length : Int) ≤ 1000
                    · simp [isTy, i0, i5, n1, n2]
                      refine c_law_is_row (by omega) h3 ?_
                      cases hr : rowB marks rs.length 2 with
                      | false => simp; simpa [formB, formC, hx, idx, i0, i5', n1, n2, hr] using q
                      | true =>
                        simp [itemsD]
                        refine comp_none (p := fun r => rowB r (widths i) rs.length) (g := id) (fun d hm' => ?_) (lim_big rl) ?_
                        · simp []
                          have : i = 0 ∨ i = 1 ∨ i = 2 ∨ i = 3 ∨ i = 4 := by omega
                          rcases this with rfl | rfl | rfl | rfl | rfl <;> simp [ixL0, ixL1, ixL2, ixL3, ixL4, big] <;> refine c_law_is_row (by omega) (rd _ hm') ?_ <;> (simp only [widths]; generalize rowB d _ _ = b; cases b <;> simp)
                        · simpa [formB, formC, hx, idx, i0, i5', n1, n2, hr] using q
                    · simp [isTy, i0, i5, n1, n2]
                      simpa [formB, formC, hx, idx, i0, i5', n1, n2] using q
                  · simp [isTy, i0, i5, n1]
                    simpa [formB, formC, hx, idx, i0, i5', n1] using q
                | _ => first | (cases h4; done) | (simp [isTy, i0, i5]; exact q)
              · simp [isTy, i0, i5]
                have i5' : ¬ i < 5 := by omega
                cases rows <;> simpa [formB, formC, hx, idx, i0, i5'] using q
            · simp [isTy, i0]
              cases rows <;> simpa [formB, formC, hx, idx, i0] using q
          | _ => first | (cases h2; done) | (simp [isI]; cases rows <;> simpa [formB, formC, hx, idx] using q)
        · simp [isTy, hx]
          cases rows <;> simpa [formB, formC, hx] using q
      | _ => first | (cases h1; done) | (simp [isTy]; exact q)
  | _ => first | (cases h; done) | (simp [isTy]; exact q)
end LL
/-! == P01e == -/
set_option Elab.async false
set_option linter.all false
set_option maxRecDepth 1000000
set_option maxHeartbeats 1000000
namespace LL
open PySem
variable {tb : List (Nat × Rn)} {m k : Nat} {w : W} {Z : Zp} {Q : D → W → Prop}
def wordsL : List Str :=
  Str.ofString "num" :: Str.ofString "name" :: Str.ofString "add" :: Str.ofString "sub" :: Str.ofString "mul" :: Str.ofString "div" :: Str.ofString "rest" :: Str.ofString "if" :: Str.ofString "let" :: Str.ofString "call" :: Str.ofString "times" :: Str.ofString "fail" :: Str.ofString "less" :: Str.ofString "same" :: Str.ofString "not" :: Str.ofString "both" :: Str.ofString "either" :: Str.ofString "in" :: Str.ofString "fun" :: Str.ofString "edition" :: Str.ofString "set" :: Str.ofString "change" :: Str.ofString "table" :: Str.ofString "piece" :: Str.ofString "history" :: Str.ofString "wish" :: Str.ofString "code" :: Str.ofString "proc" :: Str.ofString "then" :: Str.ofString "else" :: Str.ofString "end" :: Str.ofString "as" :: Str.ofString "do" :: Str.ofString "at" :: Str.ofString "to" :: Str.ofString "by" :: Str.ofString "of" :: Str.ofString "from" :: Str.ofString "all" :: Str.ofString "some" :: Str.ofString "told" :: Str.ofString "failed" :: Str.ofString "is" :: Str.ofString "where" :: Str.ofString "move" :: Str.ofString "jump" :: Str.ofString "loop" :: Str.ofString "back" :: Str.ofString "rows" :: Str.ofString "slots" :: Str.ofString "entry" :: Str.ofString "log" :: Str.ofString "with" :: Str.ofString "yes" :: Str.ofString "no" :: Str.ofString "or" :: []
def lettersS : Str := "abcdefghijklmnopqrstuvwxyz"
def digitsS : Str := "0123456789"
def bothS : Str := "abcdefghijklmnopqrstuvwxyz0123456789"
theorem bothS_eq : bothS.cps.toList = lettersS.cps.toList ++ digitsS.cps.toList := by decide +kernel
theorem plains_strs (ys : List Str) : D.plains (ys.map .str) = true := by induction ys <;> simp_all [D.plains, D.plain]
theorem any_strs (x : Str) (ys : List Str) : ((ys.map D.str).any fun y => D.eqv y (.str x)) = decide (x ∈ ys) := by
  induction ys with
  | nil => simp
  | cons y ys ih =>
    rw [List.map_cons, List.any_cons, ih]
    rw [Bool.eq_iff_iff]
    simp only [D.eqv, Bool.or_eq_true, decide_eq_true_eq, List.mem_cons, beq_iff_eq]
    exact ⟨fun h => h.elim (fun h => .inl h.symm) .inr, fun h => h.elim (fun h => .inl h.symm) .inr⟩
theorem inL_strs (x : Str) (ys : List Str) : inL (.str x) (ys.map .str) = some (decide (x ∈ ys)) := by
  unfold inL
  rw [plains_strs, any_strs]
  simp [D.plain, D.depth]
theorem in_tup (x : Str) (ys : List Str) : cmD .in_ (.str x) (.tup (ys.map .str)) = some (decide (x ∈ ys)) := inL_strs x ys
theorem in_lst (x : Str) (ys : List Str) : cmD .in_ (.str x) (.lst (ys.map .str)) = some (decide (x ∈ ys)) := inL_strs x ys
theorem add_s (x y : Str) : opD .add (.str x) (.str y) = if x.length + y.length ≤ big then some (.str (x ++ y)) else none := rfl
theorem words_split : Txt.split (Str.ofString "num name add sub mul div rest if let call times fail less same not both either in fun edition set change table piece history wish code proc then else end as do at to by of from all some told failed is where move jump loop back rows slots entry log with yes no or") (Str.ofString " ") = wordsL := by decide +kernel
theorem words_add : opD .add (.str "num name add sub mul div rest if let call times fail less same not both either in fun edition set change table piece history wish code proc then else end as") (.str " do at to by of from all some told failed is where move jump loop back rows slots entry log with yes no or") = some (.str "num name add sub mul div rest if let call times fail less same not both either in fun edition set change table piece history wish code proc then else end as do at to by of from all some told failed is where move jump loop back rows slots entry log with yes no or") := by
  refine Eq.trans (add_s _ _) ?_
  rw [if_pos (by decide +kernel)]
  exact congrArg (fun s => some (D.str s)) (by decide +kernel)
theorem words_sm : smD .split (.str "num name add sub mul div rest if let call times fail less same not both either in fun edition set change table piece history wish code proc then else end as do at to by of from all some told failed is where move jump loop back rows slots entry log with yes no or") (.str " ") = some (.lst (wordsL.map .str)) := by
  rw [← words_split]
  unfold smD
  exact if_pos (by decide +kernel)
theorem c_law_words [C_law_words tb] (hk : 1 ≤ k) (q : Q (.lst (wordsL.map .str)) w) : wp (run tb m k F_law_words [] w) Z Q := by
  refine wp_enter C_law_words.own rfl hk fun k hk => ?_
  unfold b_law_words
  simp [words_add, words_sm]
  simpa using q
def nameC (s : Str) : Bool := match s.cps.toList with
  | [] => false
  | c :: cs => decide (c ∈ lettersS.cps) && (c :: cs).all (fun c => decide (c ∈ lettersS.cps) || decide (c ∈ digitsS.cps))
def nameB (d : D) : Bool := match d with
  | .str s => decide ((1 : Int) ≤ s.length) && decide ((s.length : Int) ≤ 12) && !decide (s ∈ wordsL) && nameC s
  | _ => false
theorem len_cps (s : Str) : s.length = s.cps.toList.length := by simp [Str.length]
theorem in_one {c : Nat} {y : Str} : cmD .in_ (.str ⟨#[c]⟩) (.str y) = some (decide (c ∈ y.cps)) := by simp [cmD, inD]
theorem nin_one {c : Nat} {y : Str} : cmD .nin (.str ⟨#[c]⟩) (.str y) = some (!decide (c ∈ y.cps)) := by simp [cmD, inD]
theorem mem_both {c : Nat} : decide (c ∈ bothS.cps) = (decide (c ∈ lettersS.cps) || decide (c ∈ digitsS.cps)) := by
  rw [Bool.eq_iff_iff]
  simp only [Bool.or_eq_true, decide_eq_true_eq, ← Array.mem_toList_iff, bothS_eq, List.mem_append]
end LL
/-! == P01f == -/
set_option Elab.async false
set_option linter.all false
set_option maxRecDepth 1000000
set_option maxHeartbeats 1000000
namespace LL
open PySem
variable {tb : List (Nat × Rn)} {m k : Nat} {w : W} {Z : Zp} {Q : D → W → Prop}
theorem ixs0 {s : Str} {c : Nat} {cs : List Nat} (h : s.cps.toList = c :: cs) (hl : s.length ≤ big) : ixD (.str s) (.int 0) = some (.str ⟨#[c]⟩) := by
  show (if s.length ≤ big then (L2.atI s.cps.toList 0).map fun c => D.str ⟨#[c]⟩ else none) = _
  rw [if_pos hl, h, show L2.atI (c :: cs) (0 : Int) = some c from atI_nat (n := 0) rfl]
  rfl
theorem words_tup : (D.tup [.str "num", .str "name", .str "add", .str "sub", .str "mul", .str "div", .str "rest", .str "if", .str "let", .str "call", .str "times", .str "fail", .str "less", .str "same", .str "not", .str "both", .str "either", .str "in", .str "fun", .str "edition", .str "set", .str "change", .str "table", .str "piece", .str "history", .str "wish", .str "code", .str "proc", .str "then", .str "else", .str "end", .str "as", .str "do", .str "at", .str "to", .str "by", .str "of", .str "from", .str "all", .str "some", .str "told", .str "failed", .str "is", .str "where", .str "move", .str "jump", .str "loop", .str "back", .str "rows", .str "slots", .str "entry", .str "log", .str "with", .str "yes", .str "no", .str "or"]) = .tup (wordsL.map .str) := rfl
theorem c_is_name [Cis_name tb] (hk : 1 ≤ k) {d : D} (h : d.gd = true) (q : Q (.bl (nameB d)) w) : wp (run tb m k Fis_name [d] w) Z Q := by
  refine wp_enter Cis_name.own rfl hk fun k hk => ?_
  unfold bis_name
  rw [words_tup]
  cases d with
  | str s =>
    have hl := lim_big (gd_str h)
    by_cases n1 : (1 : Int) ≤ s.length
    · by_cases n2 : (s.length : Int) ≤ 12
      · simp [isTy, hl, n1, n2, in_tup]
        by_cases hw : s ∈ wordsL
        · simp [hw]; simpa [nameB, hw] using q
        · cases hs : s.cps.toList with
          | nil => rw [len_cps, hs] at n1; simp at n1
          | cons c cs =>
            simp [hw, ixs0 hs hl, in_one, itemsD, hs]
            cases hc : decide (c ∈ (Str.ofString "abcdefghijklmnopqrstuvwxyz").cps) with
            | false =>
              simp only [two_f]
              simpa [nameB, n1, n2, hw, nameC, hs, lettersS, of_decide_eq_false hc] using q
            | true =>
              simp only [two_t]
              rw [← List.map_cons (f := fun c => D.str ⟨#[c]⟩)]
              refine comp_all (p := fun d => match d with | .str s => s.cps.toList.all (fun c => decide (c ∈ lettersS.cps) || decide (c ∈ digitsS.cps)) | _ => false) (fun d hd => ?_) ?_ ?_
              · obtain ⟨c', _, rfl⟩ := List.mem_map.mp hd
                simp [in_one]
                by_cases h1 : c' ∈ (Str.ofString "abcdefghijklmnopqrstuvwxyz").cps <;> simp [h1, lettersS, digitsS]
                by_cases h2 : c' ∈ (Str.ofString "0123456789").cps <;> simp [h2]
              · rw [List.length_map, ← hs, ← len_cps]; exact hl
              · simpa [nameB, n1, n2, hw, nameC, hs, lettersS, of_decide_eq_true hc, List.all_map, Function.comp_def] using q
      · simp [isTy, hl, n1, n2]
        simpa [nameB, n1, n2] using q
    · simp [isTy, hl, n1]
      simpa [nameB, n1] using q
  | _ => first | (cases h; done) | (simp [isTy]; exact q)
theorem c_law_is_name [C_law_is_name tb] (hk : 2 ≤ k) {d : D} (h : d.gd = true) (q : Q (.bl (nameB d)) w) : wp (run tb m k F_law_is_name [d] w) Z Q := by
  refine wp_enter C_law_is_name.own rfl hk fun k hk => ?_
  unfold b_law_is_name
  cases d with
  | str s =>
    have hl := lim_big (gd_str h)
    by_cases n1 : (1 : Int) ≤ s.length
    · by_cases n2 : (s.length : Int) ≤ 12
      · simp [isTy, hl, n1, n2]
        refine c_law_words (by omega) ?_
        rw [in_lst]
        by_cases hw : s ∈ wordsL
        · simp [hw]; simpa [nameB, hw] using q
        · cases hs : s.cps.toList with
          | nil => rw [len_cps, hs] at n1; simp at n1
          | cons c cs =>
            simp [hw, ixs0 hs hl, in_one, itemsD, hs]
            cases hc : decide (c ∈ (Str.ofString "abcdefghijklmnopqrstuvwxyz").cps) with
            | false =>
              simp only [two_f]
              simpa [nameB, n1, n2, hw, nameC, hs, lettersS, of_decide_eq_false hc] using q
            | true =>
              simp only [two_t]
              rw [← List.map_cons (f := fun c => D.str ⟨#[c]⟩)]
              refine comp_none (g := id) (p := fun d => match d with | .str s => s.cps.toList.all (fun c => decide (c ∈ lettersS.cps) || decide (c ∈ digitsS.cps)) | _ => false) (fun d hd => ?_) ?_ ?_
              · obtain ⟨c', _, rfl⟩ := List.mem_map.mp hd
                have e : c' ∈ bothS.cps ↔ (c' ∈ lettersS.cps ∨ c' ∈ digitsS.cps) := by simpa using Bool.eq_iff_iff.mp (mem_both (c := c'))
                simp [nin_one]
                by_cases h1 : c' ∈ bothS.cps
                · have h2 := e.mp h1
                  have h1' : c' ∈ (Str.ofString "abcdefghijklmnopqrstuvwxyz0123456789").cps := h1
                  rcases h2 with h2 | h2 <;> simp [h1', h2]
                · have h2 : ¬ (c' ∈ lettersS.cps ∨ c' ∈ digitsS.cps) := fun q => h1 (e.mpr q)
                  have h3 : ¬ c' ∈ lettersS.cps := fun q => h2 (.inl q)
                  have h4 : ¬ c' ∈ digitsS.cps := fun q => h2 (.inr q)
                  have h1' : ¬ c' ∈ (Str.ofString "abcdefghijklmnopqrstuvwxyz0123456789").cps := h1
                  simp [h1', h3, h4]
              · rw [List.length_map, ← hs, ← len_cps]; exact hl
              · simpa [nameB, n1, n2, hw, nameC, hs, lettersS, of_decide_eq_true hc, List.all_map, Function.comp_def] using q
      · simp [isTy, hl, n1, n2]
        simpa [nameB, n1, n2] using q
    · simp [isTy, hl, n1]
      simpa [nameB, n1] using q
  | _ => first | (cases h; done) | (simp [isTy]; exact q)
end LL
/-! == P01g == -/
set_option Elab.async false
set_option linter.all false
set_option maxRecDepth 1000000
set_option maxHeartbeats 1000000
namespace LL
open PySem
variable {tb : List (Nat × Rn)} {m k : Nat} {w : W} {Z : Zp} {Q : D → W → Prop}
/-- what a sign asks -/
def signB (s : Str) (d : D) : Bool :=
  if s = "n" then idx d 1000001 else if s = "x" then nameB d else if s = "f" then idx d 65 else if s = "g" then idx d 65 && (match d with | .int i => decide (0 < i) | _ => false) else if s = "s" then formB d
  else !decide (s = "E") || (match d with | .tup ds => decide ((ds.length : Int) ≤ 4) | _ => false)
theorem c_is_sign [Cis_sign tb] (hk : 5 ≤ k) {s : Str} {d : D} (h : d.gd = true) (q : Q (.bl (signB s d)) w) : wp (run tb m k Fis_sign [.str s, d] w) Z Q := by
  refine wp_enter Cis_sign.own rfl hk fun k hk => ?_
  unfold bis_sign
  have hp := gd_plain d h
  by_cases h1 : s = "n"
  · simp [h1]
    exact c_is_index (by omega) hp (by simpa [signB, ofS_inj, h1] using q)
  by_cases h2 : s = "x"
  · simp [h2]
    exact c_is_name (by omega) h (by simpa [signB, ofS_inj, h2] using q)
  by_cases h3 : s = "f"
  · simp [h3]
    exact c_is_index (by omega) hp (by simpa [signB, ofS_inj, h3] using q)
  by_cases h4 : s = "g"
  · simp [h4]
    refine c_is_index (by omega) hp ?_
    cases hi : idx d 65 with
    | false => simp; simpa [signB, ofS_inj, h4, hi] using q
    | true =>
      obtain ⟨i, rfl, _, _⟩ := idx_elim hi
      simp [cgt_i]
      simpa [signB, ofS_inj, h4, hi] using q
  by_cases h5 : s = "s"
  · simp [h5]
    exact c_is_set_form (by omega) h (by simpa [signB, ofS_inj, h5] using q)
  by_cases h6 : s = "E"
  · simp [h6]
    cases d with
    | tup ds => simp [isTy]; simpa [signB, ofS_inj, h6] using q
    | _ => first | (cases h; done) | (simp [isTy]; simpa [signB, ofS_inj, h6] using q)
  · simp [h1, h2, h3, h4, h5, h6]
    simpa [signB, ofS_inj, h1, h2, h3, h4, h5, h6] using q
theorem in_nfg (s : Str) : cmD .in_ (.str s) (.lst [.str "n", .str "f", .str "g"]) = some (decide (s = "n" ∨ s = "f" ∨ s = "g")) := by
  have := in_lst s ["n", "f", "g"]
  simpa using this
theorem c_law_fits [C_law_fits tb] (hk : 5 ≤ k) {s : Str} {d : D} (h : d.gd = true) (q : Q (.bl (signB s d)) w) : wp (run tb m k F_law_fits [.str s, d] w) Z Q := by
  refine wp_enter C_law_fits.own rfl hk fun k hk => ?_
  unfold b_law_fits
  have hp := gd_plain d h
  have hb : (3 : Nat) ≤ big := by decide
  have ie : ∀ (i n : Int), (decide (0 ≤ i) && decide (i < n + 1)) = (decide (0 ≤ i) && decide (i ≤ n)) := fun i n => by
    rw [Bool.eq_iff_iff]; simp [Int.lt_add_one_iff]
  by_cases h1 : s = "n"
  · simp [h1, in_nfg, hb]
    refine c_law_is_int (by omega) hp ?_
    cases d with
    | int i =>
      have := ie i 1000000
      simp [signB, ofS_inj, h1, idx] at q this
      rw [this] at q
      simp [isI, cle_i]
      by_cases i0 : 0 ≤ i <;> simp [i0] at q ⊢ <;> exact q
    | _ => simpa [isI, signB, h1, idx] using q
  by_cases h3 : s = "f"
  · simp [h3, in_nfg, hb]
    refine c_law_is_int (by omega) hp ?_
    cases d with
    | int i =>
      have := ie i 64
      simp [signB, ofS_inj, h3, idx] at q this
      rw [this] at q
      simp [isI, cle_i]
      by_cases i0 : 0 ≤ i <;> simp [i0] at q ⊢ <;> exact q
    | _ => simpa [isI, signB, ofS_inj, h3, idx] using q
  by_cases h4 : s = "g"
  · simp [h4, in_nfg, hb]
    refine c_law_is_int (by omega) hp ?_
    cases d with
    | int i =>
      have e : (idx (.int i) 65 && decide (0 < i)) = (decide (1 ≤ i) && decide (i ≤ 64)) := by
        rw [Bool.eq_iff_iff]; simp [idx]; omega
      simp only [signB, ofS_inj, h4] at q
      simp at q
      rw [e] at q
      simp [isI, cle_i]
      by_cases i0 : 1 ≤ i <;> simp [i0] at q ⊢ <;> exact q
    | _ => simpa [isI, signB, ofS_inj, h4, idx] using q
  by_cases h2 : s = "x"
  · simp [h2, in_nfg, hb]
    exact c_law_is_name (by omega) h (by simpa [signB, ofS_inj, h2] using q)
  by_cases h5 : s = "s"
  · simp [h5, in_nfg, hb]
    exact c_law_is_form (by omega) h (by simpa [signB, ofS_inj, h5] using q)
  by_cases h6 : s = "E"
  · simp [h6, in_nfg, hb]
    cases d with
    | tup ds => simp [isTy]; simpa [signB, ofS_inj, h6] using q
    | _ => first | (cases h; done) | (simp [isTy]; simpa [signB, ofS_inj, h6] using q)
  · simp [h1, h2, h3, h4, h5, h6, in_nfg, hb]
    simpa [signB, ofS_inj, h1, h2, h3, h4, h5, h6] using q
end LL
/-! == P01i == -/
set_option Elab.async false
set_option linter.all false
set_option maxRecDepth 1000000
set_option maxHeartbeats 1000000
namespace LL
open PySem
variable {tb : List (Nat × Rn)} {m k : Nat} {w : W} {Z : Zp} {Q : D → W → Prop}
def formsK : List Str := ["num", "name", "add", "sub", "mul", "div", "rest", "if", "let", "call", "times", "fail", "less", "same", "not", "both", "either", "in"]
def formsV : List Str := ["n", "x", "ee", "ee", "fe", "eg", "eg", "tee", "xee", "xE", "fxee", "x", "ee", "ee", "t", "tt", "tt", "sE"]
def testsK : List Str := ["less", "same", "not", "both", "either", "in"]
def lookS (k : Str) : List Str → List Str → Option Str
  | x :: xs, d :: ds => if x = k then some d else lookS k xs ds
  | _, _ => none
theorem lookD_strs (k : Str) : ∀ (xs ys : List Str), lookD k xs (ys.map .str) = (lookS k xs ys).map .str
  | [], ys => by cases ys <;> rfl
  | x :: xs, [] => rfl
  | x :: xs, y :: ys => by
    rw [List.map_cons, lookD, lookS]
    split
    · rfl
    · exact lookD_strs k xs ys
def formsD : D := .dct formsK (formsV.map .str)
def signsOf (s : Str) : List Str := s.cps.toList.map fun c => ⟨#[c]⟩
/-- what a head asks -/
def headB (d : D) (kind : Str) : Bool := match d with
  | .tup (x :: rest) => match x with
    | .str x => match lookS x formsK formsV with
      | some sg => (decide (x ∈ testsK) == decide (kind = "t")) && decide (rest.length = sg.cps.toList.length) && ((signsOf sg).zip rest).all fun p => signB p.1 p.2
      | none => false
    | _ => false
  | _ => false
theorem forms_eq : (D.dct ["num", "name", "add", "sub", "mul", "div", "rest", "if", "let", "call", "times", "fail", "less", "same", "not", "both", "either", "in"] [.str "n", .str "x", .str "ee", .str "ee", .str "fe", .str "eg", .str "eg", .str "tee", .str "xee", .str "xE", .str "fxee", .str "x", .str "ee", .str "ee", .str "t", .str "tt", .str "tt", .str "sE"]) = formsD := rfl
theorem tests_eq : (D.tup [.str "less", .str "same", .str "not", .str "both", .str "either", .str "in"]) = .tup (testsK.map .str) := rfl
theorem nin_forms (x : Str) : cmD .nin (.str x) formsD = some (!decide (x ∈ formsK)) := rfl
theorem ix_forms (x : Str) : ixD formsD (.str x) = (lookS x formsK formsV).map .str := lookD_strs x formsK formsV
theorem eq_nilT {ds : List D} (h : D.plains ds = true) : cmD .eq (.tup ds) (.tup []) = some ds.isEmpty := by
  cases ds with
  | nil => rfl
  | cons d ds => simp [cmD, eqD, D.eqOk, D.eqv, D.eqvs, D.plain, h, D.depth, D.depths]; rfl
theorem look_mem (x : Str) : ∀ (xs ys : List Str), xs.length = ys.length → (x ∈ xs ↔ ∃ y, lookS x xs ys = some y)
  | [], [], _ => by simp [lookS]
  | a :: xs, b :: ys, h => by
    rw [lookS]
    by_cases e : a = x
    · subst e; simp
    · have := look_mem x xs ys (by simpa using h)
      simp [e, ← this]
      exact fun q => absurd q.symm e
theorem look_val (k : Str) : ∀ (xs ys : List Str) {y : Str}, lookS k xs ys = some y → y ∈ ys
  | [], _, _, h => by cases h
  | x :: xs, [], _, h => by cases h
  | x :: xs, d :: ds, y, h => by
    rw [lookS] at h
    split at h
    · cases h; exact List.mem_cons_self ..
    · exact List.mem_cons_of_mem _ (look_val k xs ds h)
theorem sz_forms {s : Str} (h : s ∈ formsV) : s.length ≤ big := by
  have : ∀ s ∈ formsV, s.length ≤ big := by decide +kernel
  exact this s h
theorem cut1 {x : D} {xs : List D} : cutD (x :: xs) (some 1) none = xs := by
  simp [cutD, HT.sIx]
theorem c_is_part_head [Cis_part_head tb] (hk : 6 ≤ k) {d : D} {kind : Str} (h : d.gd = true) (q : Q (.bl (headB d kind)) w) : wp (run tb m k Fis_part_head [d, .str kind] w) Z Q := by
  refine wp_enter Cis_part_head.own rfl hk fun k hk => ?_
  unfold bis_part_head
  rw [forms_eq, tests_eq]
  have hb : 0 ≤ big := by decide
  cases d with
  | tup ds =>
    obtain ⟨hl, hd⟩ := gd_tup h
    cases ds with
    | nil => simp [isTy, hb, eq_nilT (ds := []) rfl]; exact q
    | cons x rest =>
      simp [isTy, hb, eq_nilT (gds_plains _ (gds_iff.mpr hd))]
      have hx := hd x (by simp)
      cases x with
      | str x =>
        simp [nin_forms, ix_forms, in_tup]
        cases hl : lookS x formsK formsV with
        | none =>
          have : ¬ x ∈ formsK := fun q => by
            obtain ⟨y, e⟩ := (look_mem x formsK formsV rfl).mp q
            rw [hl] at e; cases e
          simp [this]; simpa [headB, hl] using q
        | some sg =>
          have : x ∈ formsK := (look_mem x formsK formsV rfl).mpr ⟨_, hl⟩
          have hsg : sg ∈ formsV := look_val x formsK formsV hl
          have hz : sg.length ≤ big := sz_forms hsg
          simp only [this, decide_true, Bool.not_true, two_f, len_s, if_pos hz, po_some, add_i, cq_i, Option.map_some, cut1, slD, itemsD]
          cases hk2 : decide (x ∈ testsK) != decide (kind = Str.ofString "t") with
          | true => 
            simp only [two_t]
            have : (decide (x ∈ testsK) == decide (kind = Str.ofString "t")) = false := by simpa [bne] using hk2
            simpa only [headB, hl, this, Bool.false_and] using q
          | false =>
            simp only [two_f]
            have : (decide (x ∈ testsK) == decide (kind = Str.ofString "t")) = true := by simpa [bne] using hk2
            refine ⟨fun _ => ?_, hz⟩
            by_cases hn : (rest.length : Int) = sg.length
            · simp only [hn, decide_true, two_t]
              have hn' : rest.length = sg.cps.toList.length := by rw [← len_cps]; omega
              refine comp_all (p := fun d => match d with | .tup [.str s, x] => signB s x | _ => false) (fun d hd' => ?_) ?_ ?_
              · obtain ⟨⟨a, b⟩, hab, rfl⟩ := List.mem_map.mp hd'
                have hb := (List.of_mem_zip hab).2
                obtain ⟨c, _, rfl⟩ := List.mem_map.mp (List.of_mem_zip hab).1
                simp []
                exact c_is_sign (by omega) (hd _ (List.mem_cons_of_mem _ hb)) ⟨rfl, rfl⟩
              · rw [List.length_map, List.length_zip, List.length_map]
                exact Nat.le_trans (Nat.min_le_left _ _) (by rw [← len_cps]; exact hz)
              · have e : ∀ (cs : List Nat) (rest : List D), (((cs.map fun c => D.str ⟨#[c]⟩).zip rest).map fun p => D.tup [p.1, p.2]).all (fun d => match d with | .tup [.str s, x] => signB s x | _ => false) = ((cs.map fun c => (⟨#[c]⟩ : Str)).zip rest).all fun p => signB p.1 p.2 := by
                  intro cs
                  induction cs with
                  | nil => intro rest; rfl
                  | cons c cs ih =>
                    intro rest
                    cases rest with
                    | nil => rfl
                    | cons r rest => simp [ih rest]
                rw [e]
                simpa only [headB, hl, this, hn', decide_true, Bool.true_and, signsOf] using q
            · simp only [hn, decide_false, two_f]
              have hn' : ¬ rest.length = sg.cps.toList.length := by rw [← len_cps]; omega
              simpa only [headB, hl, this, hn', decide_false, Bool.true_and, Bool.false_and] using q
      | _ => first | (cases hx; done) | (simp; exact q)
  | _ => first | (cases h; done) | (simp [isTy]; exact q)
end LL
/-! == P01j == -/
set_option Elab.async false
set_option linter.all false
set_option maxRecDepth 1000000
set_option maxHeartbeats 1000000
namespace LL
open PySem
variable {tb : List (Nat × Rn)} {m k : Nat} {w : W} {Z : Zp} {Q : D → W → Prop}
/-- the parts of a part: by one sign -/
def inn1 (p : Str × D) : List (D × Str) :=
  if p.1 = "e" ∨ p.1 = "t" then [(p.2, p.1)] else if p.1 = "E" then (match p.2 with | .tup ds => ds.map fun d => (d, "e") | _ => []) else []
def inn (d : D) : List (D × Str) := match d with
  | .tup (x :: rest) => match x with
    | .str x => match lookS x formsK formsV with
      | some sg => ((signsOf sg).zip rest).flatMap inn1
      | none => []
    | _ => []
  | _ => []
def pairD (p : D × Str) : D := .tup [p.1, .str p.2]
theorem one_eq {c : Nat} {s : Str} {e : Nat} (h : s.cps = #[e]) : ((⟨#[c]⟩ : Str) = s) ↔ c = e := by
  cases s with
  | mk a =>
    simp only at h
    subst h
    simp
theorem in_et (c : Nat) : cmD .in_ (.str ⟨#[c]⟩) (.str "et") = some (decide ((⟨#[c]⟩ : Str) = "e" ∨ (⟨#[c]⟩ : Str) = "t")) := by
  rw [in_one]
  have e1 : (Str.ofString "et").cps = #[101, 116] := by decide +kernel
  have e2 : (Str.ofString "e").cps = #[101] := by decide +kernel
  have e3 : (Str.ofString "t").cps = #[116] := by decide +kernel
  simp [one_eq e2, one_eq e3, e1]
theorem inn1_len {s : Str} {d : D} (h : signB s d = true) : (inn1 (s, d)).length ≤ 4 := by
  unfold inn1
  split
  · simp
  · split
    · rename_i h1 h2
      simp only at h2
      subst h2
      cases d with
      | tup ds => simp [signB] at h; simp; omega
      | _ => simp
    · simp
theorem flat_len {α β : Type} {f : α → List β} {n : Nat} : ∀ {l : List α}, (∀ a ∈ l, (f a).length ≤ n) → (l.flatMap f).length ≤ n * l.length
  | [], _ => by simp
  | a :: l, h => by
    have h1 := h a (by simp)
    have h2 := flat_len (l := l) fun b hb => h b (by simp [hb])
    simp only [List.flatMap_cons, List.length_append, List.length_cons, Nat.mul_add]
    omega
theorem take_snoc {α : Type} {l : List α} {i : Nat} {a : α} (h : l[i]? = some a) : l.take (i + 1) = l.take i ++ [a] := by
  rw [List.take_add_one, h]; rfl
theorem comp_map {f : D → W → R (Option D × W)} {g : D → D} {ds : List D} {Q : List D → W → Prop} {w : W} (h : ∀ d ∈ ds, wp (f d w) noZ fun o w' => o = some (g d) ∧ w' = w) (k : Q (ds.map g) w) : wp (compGo f ds w) noZ Q := by
  refine comp_pure (g := fun d => some (g d)) h ?_
  rw [show ds.filterMap (fun d => some (g d)) = ds.map g from by induction ds <;> simp_all]
  exact k
theorem signs_len {sg : Str} (h : sg ∈ formsV) : sg.cps.toList.length ≤ 4 := by
  have : ∀ s ∈ formsV, s.cps.toList.length ≤ 4 := by decide +kernel
  exact this sg h
theorem c_inner_parts [Cinner_parts tb] (hk : 1 ≤ k) {d : D} {kind : Str} (h : d.gd = true) (hh : headB d kind = true) (q : Q (.lst ((inn d).map pairD)) w) : wp (run tb m k Finner_parts [d] w) Z Q := by
  refine wp_enter Cinner_parts.own rfl hk fun k hk => ?_
  unfold binner_parts
  rw [forms_eq]
  have hb : 0 ≤ big := by decide
  cases d with
  | tup ds =>
    cases ds with
    | nil => cases hh
    | cons x rest =>
      obtain ⟨hl, hd⟩ := gd_tup h
      cases x with
      | str x =>
        cases hx : lookS x formsK formsV with
        | none => simp [headB, hx] at hh
        | some sg =>
          simp only [headB, hx, Bool.and_eq_true] at hh
          obtain ⟨⟨_, h2⟩, h3⟩ := hh
          have h2 := of_decide_eq_true h2
          have sl := signs_len (look_val x formsK formsV hx)
          have hz : sg.length ≤ big := sz_forms (look_val x formsK formsV hx)
          simp [hb, ix_forms, hx, slD, cut1, itemsD]
          simp only [inn, hx] at q
          refine for_inv (I := fun i s w' => w' = w ∧ ∃ a b c, s = [.val (.tup (.str x :: rest)), .own (((((signsOf sg).zip rest).take i).flatMap inn1).map pairD), a, b, c]) ⟨rfl, _, _, _, rfl⟩ ?_ ?_
          · rintro i d hd2 s w' ⟨rfl, a, b, c, rfl⟩
            have hzip : (((List.map (fun c => D.str ⟨#[c]⟩) sg.cps.toList).zip rest).map fun p => D.tup [p.1, p.2]) = (((signsOf sg).zip rest).map fun p => D.tup [.str p.1, p.2]) := by
              rw [signsOf, List.zip_map_left, List.zip_map_left, List.map_map, List.map_map]
              rfl
            rw [hzip, List.getElem?_map] at hd2
            cases hp : ((signsOf sg).zip rest)[i]? with
            | none => rw [hp] at hd2; cases hd2
            | some p =>
              rw [hp] at hd2
              cases hd2
              obtain ⟨p1, p2⟩ := p
              have hm := List.mem_of_getElem? hp
              obtain ⟨c0, _, rfl⟩ := List.mem_map.mp (List.of_mem_zip hm).1
              have hg := hd p2 (List.mem_cons_of_mem _ (List.of_mem_zip hm).2)
              have hs := List.all_eq_true.mp h3 _ hm
              have hln : ((((signsOf sg).zip rest).take i).flatMap inn1).length ≤ 16 := by
                refine Nat.le_trans (flat_len (n := 4) fun a ha => inn1_len (List.all_eq_true.mp h3 _ (List.mem_of_mem_take ha))) ?_
                rw [List.length_take, List.length_zip, signsOf, List.length_map]
                omega
              have hbg : (1000 : Nat) ≤ big := by decide
              rw [take_snoc hp, List.flatMap_append, List.flatMap_singleton]
              revert hln
              generalize (((signsOf sg).zip rest).take i).flatMap inn1 = fs
              intro hln
              by_cases e1 : (⟨#[c0]⟩ : Str) = "e" ∨ (⟨#[c0]⟩ : Str) = "t"
              · simp [in_et, e1, inn1, pairD]
                omega
              · simp [in_et, e1]
                by_cases e2 : (⟨#[c0]⟩ : Str) = "E"
                · rw [e2] at hs
                  cases p2 with
                  | tup es =>
                    have he : es.length ≤ 4 := by simp [signB] at hs; omega
                    simp [e2, itemsD]
                    refine comp_map (g := fun d => .tup [d, .str "e"]) (fun d _ => ?_) ?_
                    · simp; decide
                    · simp [inn1, e1, e2, pairD]
                      omega
                  | _ => simp [signB] at hs
                · simp [e2, inn1, e1]
          · rintro s w' ⟨rfl, a, b, c, rfl⟩
            simp
            rw [List.take_of_length_le (by simp [signsOf])] at *
            simpa using q
      | _ => cases hh
  | _ => cases hh
end LL
/-! == LL27 == -/
set_option Elab.async false
set_option linter.all false
set_option maxRecDepth 100000
set_option maxHeartbeats 1000000
/-! LL, part 27: more small equations -/
namespace LL
open PySem
section
variable {b : Bool} {i : Int} {s : Str} {ds : List D} {d : D}
@[simp] theorem hasL_bl : (D.bl b).hasL = false := rfl
@[simp] theorem hasL_int : (D.int i).hasL = false := rfl
@[simp] theorem hasL_str : (D.str s).hasL = false := rfl
@[simp] theorem hasL_non : D.non.hasL = false := rfl
@[simp] theorem hasL_ob {n : Nat} : (D.ob n).hasL = false := rfl
@[simp] theorem hasL_tup : (D.tup ds).hasL = D.hasLs ds := rfl
@[simp] theorem hasLs_nil : D.hasLs [] = false := rfl
@[simp] theorem hasLs_cons : D.hasLs (d :: ds) = (d.hasL || D.hasLs ds) := rfl
@[simp] theorem items_l : itemsD (.lst ds) = some ds := rfl
@[simp] theorem items_t : itemsD (.tup ds) = some ds := rfl
@[simp] theorem items_s : itemsD (.str s) = some (s.cps.toList.map fun c => .str ⟨#[c]⟩) := rfl
@[simp] theorem add_l {xs ys : List D} : opD .add (.lst xs) (.lst ys) = if xs.length + ys.length ≤ big then some (.lst (xs ++ ys)) else none := rfl
@[simp] theorem add_t {xs ys : List D} : opD .add (.tup xs) (.tup ys) = if xs.length + ys.length ≤ big then some (.tup (xs ++ ys)) else none := rfl
end
theorem snoc_of {α : Type} {l : List α} (h : l ≠ []) : ∃ t x, l = t ++ [x] := ⟨l.dropLast, l.getLast h, (List.dropLast_concat_getLast h).symm⟩
end LL
/-! == P01k == -/
set_option Elab.async false
set_option linter.all false
set_option maxRecDepth 1000000
set_option maxHeartbeats 1000000
namespace LL
open PySem
variable {tb : List (Nat × Rn)} {m k : Nat} {w : W} {Z : Zp} {Q : D → W → Prop}
abbrev Item := D × Str × Int
def itemD (x : Item) : D := .tup [x.1, .str x.2.1, .int x.2.2]
def innI (x : Item) : List Item := (inn x.1).map fun p => (p.1, p.2, x.2.2 + 1)
def partGo : Nat → List Item → Bool
  | 0, st => st.isEmpty
  | n + 1, st => match st.getLast? with
    | none => true
    | some x => if 30 < x.2.2 ∨ headB x.1 x.2.1 = false then false else partGo n (st.dropLast ++ innI x)
def partB (d : D) (kind : Str) : Bool := partGo 200 [(d, kind, 1)]
theorem partGo_nil : ∀ n, partGo n [] = true
  | 0 => rfl
  | n + 1 => rfl
theorem partGo_snoc {n : Nat} {st : List Item} {x : Item} : partGo (n + 1) (st ++ [x]) = if 30 < x.2.2 ∨ headB x.1 x.2.1 = false then false else partGo n (st ++ innI x) := by
  rw [partGo]; simp
theorem inn_len {d : D} {kind : Str} (hh : headB d kind = true) : (inn d).length ≤ 16 := by
  cases d with
  | tup ds =>
    cases ds with
    | nil => cases hh
    | cons x rest =>
      cases x with
      | str x =>
        cases hx : lookS x formsK formsV with
        | none => simp [headB, hx] at hh
        | some sg =>
          simp only [headB, hx, Bool.and_eq_true] at hh
          have sl := signs_len (look_val x formsK formsV hx)
          simp only [inn, hx]
          refine Nat.le_trans (flat_len (n := 4) fun a ha => inn1_len (List.all_eq_true.mp hh.2 _ ha)) ?_
          rw [List.length_zip, signsOf, List.length_map]
          omega
      | _ => cases hh
  | _ => cases hh
theorem inn_gd {d : D} (h : d.gd = true) : ∀ p ∈ inn d, p.1.gd = true := by
  intro p hp
  cases d with
  | tup ds =>
    cases ds with
    | nil => cases hp
    | cons x rest =>
      obtain ⟨_, hd⟩ := gd_tup h
      cases x with
      | str x =>
        simp only [inn] at hp
        split at hp
        · obtain ⟨⟨s, e⟩, ha, hp⟩ := List.mem_flatMap.mp hp
          have hg := hd e (List.mem_cons_of_mem _ (List.of_mem_zip ha).2)
          unfold inn1 at hp
          split at hp
          · simp at hp; rw [hp]; exact hg
          · split at hp
            · cases e with
              | tup es =>
                obtain ⟨d', hd', rfl⟩ := List.mem_map.mp hp
                exact (gd_tup hg).2 _ hd'
              | _ => cases hp
            · cases hp
        · cases hp
      | _ => cases hp
  | _ => cases hp
theorem innI_gd {x : Item} (h : x.1.gd = true) : ∀ y ∈ innI x, y.1.gd = true := by
  intro y hy
  obtain ⟨p, hp, rfl⟩ := List.mem_map.mp hy
  exact inn_gd h p hp
theorem c_is_part [Cis_part tb] (hk : 7 ≤ k) (hm : 1000 ≤ m) {d : D} {kind : Str} (h : d.gd = true) (q : Q (.bl (partB d kind)) w) : wp (run tb m k Fis_part [d, .str kind] w) Z Q := by
  refine wp_enter Cis_part.own rfl hk fun k hk => ?_
  unfold bis_part
  have hb : (10000 : Nat) ≤ big := by decide
  have hb2 : (2 : Nat) ≤ big ∧ (1 : Nat) ≤ big ∧ (3 : Nat) ≤ big := by decide
  simp [hb2]
  refine wh_inv (I := fun n s w' => w' = w ∧ ∃ st many a b c e f, s = [.val d, .val (.str kind), .own (st.map itemD), .val (.int many), a, b, c, e, f] ∧ 0 ≤ many ∧ many ≤ 200 ∧ n = 200 - many.toNat ∧ (∀ x ∈ st, x.1.gd = true) ∧ st.length ≤ 1 + 16 * many.toNat ∧ partB d kind = partGo (200 - many.toNat) st) ?_ _ 200 _ _ ⟨rfl, [(d, kind, 1)], 0, _, _, _, _, _, rfl, by omega, by omega, rfl, by simp [h], by simp, rfl⟩ (by omega)
  rintro n s w' ⟨rfl, st, many, a, b, c, e, f, rfl, m0, m1, rfl, hg, hl, hp⟩
  simp
  refine ne_nil ?_
  by_cases hst : st = []
  · subst hst
    rw [partGo_nil] at hp
    rw [hp] at q
    simpa using q
  · obtain ⟨st, x, rfl⟩ := snoc_of hst
    obtain ⟨x1, x2, x3⟩ := x
    have hx : x1.gd = true := hg _ (List.mem_append_right _ (List.mem_singleton.mpr rfl))
    have hne : (List.map itemD st ++ [D.tup [x1, D.str x2, D.int x3]]).isEmpty = false := by simp
    simp [itemD, hne]
    by_cases h200 : many = 200
    · subst h200
      simp [partGo] at hp
      simp
      rw [hp, show (st ++ [(x1, x2, x3)]).isEmpty = false by simp] at q; exact q
    · have e1 : ¬ 200 < many + 1 := by omega
      obtain ⟨n, hn⟩ : ∃ n, 200 - many.toNat = n + 1 := ⟨199 - many.toNat, by omega⟩
      rw [hn, partGo_snoc] at hp
      simp [e1]
      by_cases h30 : 30 < x3
      · simp [h30] at hp ⊢
        rw [hp] at q; exact q
      · simp only [h30, decide_false, two_f]
        refine c_is_part_head (by omega) hx ?_
        cases hh : headB x1 x2 with
        | false =>
          simp [hh] at hp ⊢
          rw [hp] at q; exact q
        | true =>
          simp [hh, h30] at hp ⊢
          refine c_inner_parts (by omega) hx hh ?_
          simp
          refine comp_map (g := fun d => match d with | .tup [a, b] => .tup [a, b, .int (x3 + 1)] | _ => .non) (fun d hd => ?_) ?_
          · obtain ⟨p, _, rfl⟩ := List.mem_map.mp hd
            simp [pairD, hb2]
          · have il := inn_len hh
            simp at hl
            rw [List.map_map, List.length_map]
            refine ⟨by omega, by omega, n, by omega, rfl, st ++ innI (x1, x2, x3), many + 1, ⟨?_, rfl⟩, by omega, by omega, by omega, ?_, ?_, ?_⟩
            · simp [innI, itemD, pairD, Function.comp_def]
            · intro a b c hm
              rcases List.mem_append.mp hm with hm | hm
              · exact hg _ (List.mem_append_left _ hm)
              · exact innI_gd (x := (x1, x2, x3)) hx _ hm
            · simp [innI]; omega
            · rw [hp, show 200 - (many + 1).toNat = n by omega]
end LL
/-! == P01l == -/
set_option Elab.async false
set_option linter.all false
set_option maxRecDepth 1000000
set_option maxHeartbeats 1000000
namespace LL
open PySem
variable {tb : List (Nat × Rn)} {m k : Nat} {w : W} {Z : Zp} {Q : D → W → Prop}
theorem c_law_forms [C_law_forms tb] (hk : 1 ≤ k) (q : Q formsD w) : wp (run tb m k F_law_forms [] w) Z Q := by
  refine wp_enter C_law_forms.own rfl hk fun k hk => ?_
  unfold b_law_forms
  simp
  exact q
theorem tests_lst : (D.lst [.str "less", .str "same", .str "not", .str "both", .str "either", .str "in"]) = .lst (testsK.map .str) := rfl
theorem c_law_is_check [C_law_is_check tb] (hk : 1 ≤ k) {x : Str} {rest : List D} (q : Q (.bl (decide (x ∈ testsK))) w) : wp (run tb m k F_law_is_check [.tup (.str x :: rest)] w) Z Q := by
  refine wp_enter C_law_is_check.own rfl hk fun k hk => ?_
  unfold b_law_is_check
  have hb : (6 : Nat) ≤ big := by decide
  simp [hb]
  rw [tests_lst, in_lst]
  exact q
theorem okI_1000 : okI 1000 = true := by decide
theorem okI_0 : okI 0 = true := by decide
theorem c_law_is_part [C_law_is_part tb] (hk : 7 ≤ k) {d : D} {kind : Str} (h : d.gd = true) (q : Q (.bl (partB d kind)) w) : wp (run tb m k F_law_is_part [d, .str kind] w) Z Q := by
  refine wp_enter C_law_is_part.own rfl hk fun k hk => ?_
  unfold b_law_is_part
  have hb : (10000 : Nat) ≤ big := by decide
  have hb2 : (2 : Nat) ≤ big ∧ (1 : Nat) ≤ big ∧ (3 : Nat) ≤ big := by decide
  simp [hb2, okI_1000, okI_0]
  refine c_law_forms (by omega) ?_
  refine for_inv (I := fun i s w' => w' = w ∧ i ≤ 200 ∧ ∃ st a b c e f g g', s = [.val d, .val (.str kind), .own (st.map itemD), .val (.int i), .val formsD, a, b, c, e, f, g, g'] ∧ (∀ x ∈ st, x.1.gd = true) ∧ st.length ≤ 1 + 16 * i ∧ partB d kind = partGo (200 - i) st) ⟨rfl, by omega, [(d, kind, 1)], _, _, _, _, _, _, _, rfl, by simp [h], by simp, rfl⟩ ?_ ?_
  · rintro i dd hdd s w' ⟨rfl, hi, st, a, b, c, e, f, g, g', rfl, hg, hl, hp⟩
    simp [forRB]
    refine eq_nil ?_
    by_cases hst : st = []
    · subst hst
      rw [partGo_nil] at hp
      simp
      refine eq_nil ?_
      rw [hp] at q
      exact q
    · obtain ⟨st, x, rfl⟩ := snoc_of hst
      obtain ⟨x1, x2, x3⟩ := x
      have hx : x1.gd = true := hg _ (List.mem_append_right _ (List.mem_singleton.mpr rfl))
      have hne : (List.map itemD st ++ [D.tup [x1, D.str x2, D.int x3]]).isEmpty = false := by simp
      simp [itemD, hne]
      have e0 : decide (200 < (i : Int) + 1) = decide (i = 200) := by rw [Bool.eq_iff_iff]; simp; omega
      rw [e0]
      by_cases h200 : i = 200
      · subst h200
        simp [partGo] at hp
        simp
        rw [hp, show (st ++ [(x1, x2, x3)]).isEmpty = false by simp] at q; exact q
      · obtain ⟨n, hn⟩ : ∃ n, 200 - i = n + 1 := ⟨199 - i, by omega⟩
        rw [hn, partGo_snoc] at hp
        simp only [h200, decide_false, two_f]
        by_cases h30 : 30 < x3
        · simp [h30] at hp ⊢
          rw [hp] at q; exact q
        · simp only [h30, decide_false, two_f]
          simp only [h30, false_or] at hp
          cases x1 with
          | tup ds =>
            cases ds with
            | nil =>
              simp [headB] at hp
              rw [hp] at q
              simpa [isTy] using q
            | cons x rest =>
              obtain ⟨_, hd2⟩ := gd_tup hx
              have hr0 : ¬ ((rest.length : Int) + 1 = 0) := by omega
              have hgx := hd2 x (by simp)
              cases x with
              | str x =>
                simp [isTy, hr0, nin_forms]
                cases hl2 : lookS x formsK formsV with
                | none =>
                  have : ¬ x ∈ formsK := fun q => by
                    obtain ⟨y, e⟩ := (look_mem x formsK formsV rfl).mp q
                    rw [hl2] at e; cases e
                  simp [headB, hl2] at hp
                  rw [hp] at q
                  simpa [this] using q
                | some sg =>
                  have : x ∈ formsK := (look_mem x formsK formsV rfl).mpr ⟨_, hl2⟩
                  have hsg : sg ∈ formsV := look_val x formsK formsV hl2
                  have hz : sg.length ≤ big := sz_forms hsg
                  have sl := signs_len hsg
                  simp [this]
                  refine c_law_is_check (by omega) ?_
                  simp [ix_forms, hl2, hz]
                  cases hk2 : decide (x ∈ testsK) != decide (x2 = Str.ofString "t") with
                  | true =>
                    have : (decide (x ∈ testsK) == decide (x2 = Str.ofString "t")) = false := by simpa [bne] using hk2
                    simp only [headB, hl2, this, Bool.false_and, if_true] at hp
                    rw [hp] at q
                    simpa using q
                  | false =>
                    have heq : (decide (x ∈ testsK) == decide (x2 = Str.ofString "t")) = true := by simpa [bne] using hk2
                    by_cases hn' : rest.length = sg.cps.toList.length
                    · have hn2 : (rest.length : Int) = sg.length := by rw [hn', len_cps]
                      simp only [headB, hl2, heq, hn', decide_true, Bool.true_and] at hp
                      simp [hn2, slD, cut1]
                      have hn9 : 200 - (i + 1) = n := by omega
                      have hzip : (((List.map (fun c => D.str ⟨#[c]⟩) sg.cps.toList).zip rest).map fun p => D.tup [p.1, p.2]) = (((signsOf sg).zip rest).map fun p => D.tup [.str p.1, p.2]) := by
                        rw [signsOf, List.zip_map_left, List.zip_map_left, List.map_map, List.map_map]
                        rfl
                      rw [hzip]
                      refine for_inv (I := fun j s w2 => w2 = w' ∧ (∀ p ∈ ((signsOf sg).zip rest).take j, signB p.1 p.2 = true) ∧ ∃ f g g', s = [.val d, .val (.str kind), .own ((st ++ ((((signsOf sg).zip rest).take j).flatMap inn1).map fun p => (p.1, p.2, x3 + 1)).map itemD), .val (.int (i + 1)), .val formsD, .val dd, .val (.tup (.str x :: rest)), .val (.str x2), .val (.int x3), f, g, g']) ⟨rfl, by simp, f, g, g', by simp⟩ ?_ ?_
                      · rintro j d3 hd3 s w2 ⟨rfl, hall, f, g, g', rfl⟩
                        rw [List.getElem?_map] at hd3
                        cases hp2 : ((signsOf sg).zip rest)[j]? with
                        | none => rw [hp2] at hd3; cases hd3
                        | some p =>
                          rw [hp2] at hd3
                          cases hd3
                          obtain ⟨p1, p2⟩ := p
                          have hm := List.mem_of_getElem? hp2
                          obtain ⟨c0, _, rfl⟩ := List.mem_map.mp (List.of_mem_zip hm).1
                          have hgp := hd2 p2 (List.mem_cons_of_mem _ (List.of_mem_zip hm).2)
                          have hln : ((((signsOf sg).zip rest).take j).flatMap inn1).length ≤ 16 := by
                            refine Nat.le_trans (flat_len (n := 4) fun a ha => inn1_len (hall _ ha)) ?_
                            rw [List.length_take, List.length_zip, signsOf, List.length_map]
                            omega
                          have et : cmD .in_ (.str ⟨#[c0]⟩) (.lst [.str "e", .str "t"]) = some (decide ((⟨#[c0]⟩ : Str) = "e" ∨ (⟨#[c0]⟩ : Str) = "t")) := by
                            have := in_lst ⟨#[c0]⟩ ["e", "t"]
                            simpa using this
                          simp only [List.length_append, List.length_singleton] at hl
                          simp only [take_snoc hp2, List.flatMap_append, List.flatMap_singleton]
                          revert hln
                          generalize (((signsOf sg).zip rest).take j).flatMap inn1 = fs
                          intro hln
                          simp
                          refine c_law_fits (by omega) hgp ?_
                          cases hs : signB ⟨#[c0]⟩ p2 with
                          | false =>
                            have : (((signsOf sg).zip rest).all fun p => signB p.fst p.snd) = false := by
                              rw [List.all_eq_false]
                              exact ⟨_, hm, by simp [hs]⟩
                            rw [this] at hp
                            simp at hp
                            rw [hp] at q
                            simpa using q
                          | true =>
                            have hall2 : ∀ (a : Str) (b : D), (a, b) ∈ ((signsOf sg).zip rest).take j ∨ a = ⟨#[c0]⟩ ∧ b = p2 → signB a b = true := by
                              rintro a b (hp | ⟨rfl, rfl⟩)
                              · exact hall (a, b) hp
                              · exact hs
                            by_cases e1 : (⟨#[c0]⟩ : Str) = "e" ∨ (⟨#[c0]⟩ : Str) = "t"
                            · have e2 : ¬ (⟨#[c0]⟩ : Str) = "E" := by
                                rcases e1 with e | e <;> rw [e] <;> decide +kernel
                              simp [et, e1, e2, inn1, hb2, itemD]
                              exact ⟨by omega, hall2⟩
                            · simp [et, e1, hb2]
                              by_cases e2 : (⟨#[c0]⟩ : Str) = "E"
                              · rw [e2] at hs
                                cases p2 with
                                | tup es =>
                                  have he : es.length ≤ 4 := by simp [signB] at hs; omega
                                  simp [e2]
                                  refine comp_map (g := fun d => .tup [d, .str "e", .int (x3 + 1)]) (fun d _ => ?_) ?_
                                  · simp [hb2]
                                  · simp [inn1, e1, e2]
                                    exact ⟨by omega, fun _ => ⟨by simpa [e2] using hall2, fun a _ => rfl⟩, by omega⟩
                                | _ => simp [signB] at hs
                              · simp [e2, inn1, e1]
                                simpa using hall2
                      · rintro s w2 ⟨rfl, hall, f, g, g', rfl⟩
                        have hln : (((signsOf sg).zip rest).map fun p => D.tup [.str p.1, p.2]).length = ((signsOf sg).zip rest).length := by simp
                        rw [hln, List.take_length] at hall ⊢
                        have hal : (((signsOf sg).zip rest).all fun p => signB p.fst p.snd) = true := List.all_eq_true.mpr hall
                        rw [hal] at hp
                        have hh : headB (.tup (.str x :: rest)) x2 = true := by
                          simp [headB, hl2, hn', hal]
                          simpa using heq
                        have il := inn_len hh
                        have hie : (inn (.tup (.str x :: rest))) = ((signsOf sg).zip rest).flatMap inn1 := by simp [inn, hl2]
                        refine ⟨rfl, by omega, st ++ innI (.tup (.str x :: rest), x2, x3), ⟨.val dd, .val (.tup (.str x :: rest)), .val (.str x2), .val (.int x3), f, g, g', ?_⟩, ?_, ?_, ?_⟩
                        · rw [innI, hie]
                        · intro y1 y2 y3 hy
                          rcases List.mem_append.mp hy with hy | hy
                          · exact hg _ (List.mem_append_left _ hy)
                          · exact innI_gd (x := (.tup (.str x :: rest), x2, x3)) hx _ hy
                        · simp [innI] at hl ⊢; omega
                        · rw [show 199 - i = n by omega]
                          simpa using hp
                    · have hn2 : ¬ (rest.length : Int) = sg.length := by rw [len_cps]; omega
                      simp only [headB, hl2, heq, hn', decide_false, Bool.true_and, Bool.false_and, if_true] at hp
                      rw [hp] at q
                      simpa [hn2] using q
              | _ => first | (cases hgx; done) | (simp [headB] at hp; rw [hp] at q; simpa [isTy, hr0] using q)
          | _ => first | (cases hx; done) | (simp [headB] at hp; rw [hp] at q; simpa [isTy] using q)
  · rintro s w' ⟨rfl, hi, _⟩
    simp [rngD] at hi
end LL
/-! == LL28 == -/
set_option Elab.async false
set_option linter.all false
set_option maxRecDepth 100000
set_option maxHeartbeats 1000000
/-! LL, part 28: the draws -/
namespace LL
open PySem
/-- w is w0 but for its source of draws -/
structure Dw (n : Nat) (w0 w : W) : Prop where
  ok : dealOk n w
  len : w.length = w0.length
  oth : ∀ j, j ≠ n → w[j]? = w0[j]?
theorem Dw.refl {n : Nat} {w : W} (h : dealOk n w) : Dw n w w := ⟨h, rfl, fun _ _ => rfl⟩
theorem Dw.trans {n : Nat} {a b c : W} (h : Dw n a b) (k : Dw n b c) : Dw n a c := ⟨k.ok, k.len.trans h.len, fun j hj => (k.oth j hj).trans (h.oth j hj)⟩
theorem wp_draw {tb : List (Nat × Rn)} {m k f n : Nat} {w0 w : W} {bound : Int} {Z : Zp} {Q : D → W → Prop} (h : lkN tb f = some .any) (hk : 1 ≤ k) (hw : Dw n w0 w) (h0 : 0 < bound) (h1 : bound < 1073741824)
    (q : ∀ (j : Nat) (w' : W), (j : Int) < bound → Dw n w0 w' → Q (.int j) w') : wp (run tb m k f [.ob n, .int bound] w) Z Q := by
  obtain ⟨k, rfl⟩ : ∃ k', k = k' + 1 := ⟨k - 1, by omega⟩
  have : run tb m (k + 1) f [.ob n, .int bound] w = anyP [.ob n, .int bound] w := by
    show (match lkN tb f with | some (.df d) => runB (run tb m k) m d _ w | some .any => anyP _ w | none => .bad) = _
    rw [h]
  obtain ⟨cs, b, e1, e2⟩ := hw.ok
  rw [this]
  simp only [anyP, e1]
  rw [if_pos ⟨h0, h1, e2⟩, wp_ok]
  have hn : n < w.length := (List.getElem?_eq_some_iff.mp e1).1
  have sl := stripZ_len cs
  have p0 : 0 ≤ (anyC cs b bound).1 := by unfold anyC; split <;> exact Int.emod_nonneg _ (by omega)
  have p1 : (anyC cs b bound).1 < bound := by unfold anyC; split <;> exact Int.emod_lt_of_pos _ h0
  obtain ⟨j, hj⟩ := Int.eq_ofNat_of_zero_le p0
  rw [hj] at p1 ⊢
  refine q j _ p1 ⟨?_, by simpa using hw.len, fun i hi => ?_⟩
  · unfold anyC
    split
    · rename_i r hr
      refine ⟨_, _, by rw [List.getElem?_set_self hn], ?_⟩
      simp; omega
    · exact ⟨_, _, by rw [List.getElem?_set_self hn], by simp⟩
  · rw [List.getElem?_set_ne (fun e => hi e.symm)]
    exact hw.oth i hi
@[simp] theorem ixD_t0 {x : D} {ds : List D} : ixD (.tup (x :: ds)) (.int 0) = some x := ix0
@[simp] theorem ixD_l0 {x : D} {ds : List D} : ixD (.lst (x :: ds)) (.int 0) = some x := ixL0
@[simp] theorem ixD_l1 {x y : D} {ds : List D} : ixD (.lst (x :: y :: ds)) (.int 1) = some y := ixL1
theorem ix_nat {xs : List D} {j : Nat} (h : j < xs.length) : ixD (.lst xs) (.int j) = some xs[j] := ixl (List.getElem?_eq_getElem h)
theorem ix_natt {xs : List D} {j : Nat} (h : j < xs.length) : ixD (.tup xs) (.int j) = some xs[j] := ixt (List.getElem?_eq_getElem h)
theorem ixN_nat {n j : Nat} (h : j < n) : L2.ixN n (j : Int) = some j := by
  unfold L2.ixN
  rw [if_pos (by omega), if_pos (by omega)]
  simp
theorem okI_nat {j : Nat} (h : j < 4611686018427387904) : okI (j : Int) = true := by
  simp [okI]; omega
theorem eraseIdx_perm {α : Type} : ∀ {l : List α} {i : Nat} (h : i < l.length), (l[i] :: l.eraseIdx i).Perm l
  | a :: l, 0, _ => List.Perm.refl _
  | a :: l, i + 1, h => by
    rw [List.getElem_cons_succ, List.eraseIdx_cons_succ]
    exact (List.Perm.swap _ _ _).trans ((eraseIdx_perm (l := l) (by simpa using h)).cons a)
/-- turns of a comprehension that draw: something of each -/
theorem comp_draw {f : D → W → R (Option D × W)} {n : Nat} {w0 w : W} {P : D → Prop} {ds : List D} {Q : List D → W → Prop} (hw : Dw n w0 w) (h : ∀ d ∈ ds, ∀ w, Dw n w0 w → wp (f d w) noZ fun o w' => Dw n w0 w' ∧ ∃ x, o = some x ∧ P x)
    (k : ∀ xs w', Dw n w0 w' → xs.length = ds.length → (∀ x ∈ xs, P x) → Q xs w') : wp (compGo f ds w) noZ Q := comp_invA (I := Dw n w0) h hw k
end LL
namespace LL
open PySem
section
variable {Φ : Fns} {n : Nat} {s : SEnv} {w : W} {P : Po} {Z : Zp}
/-- one statement, then the rest by what holds between -/
theorem x_step {st : LS} {ss : LSs} (I : SEnv → W → Prop) (h : wpS (exec Φ n st s w) { P with N := I }) (k : ∀ s w, I s w → wpS (execs Φ n ss s w) P) : wpS (execs Φ n (.cons st ss) s w) P :=
  x_cons.mpr (wpS_mono h (fun _ _ h => h) k (fun _ _ h => h) (fun _ _ h => h) (fun _ _ h => h))
theorem cg_nil {f : D → W → R (Option D × W)} {Q : List D → W → Prop} : wp (compGo f [] w) Z Q ↔ Q [] w := by rw [compGo]; exact wp_ok
theorem cg_cons {f : D → W → R (Option D × W)} {d : D} {ds : List D} {Q : List D → W → Prop} : wp (compGo f (d :: ds) w) Z Q ↔ wp (f d w) Z fun o w => wp (compGo f ds w) Z fun xs w => Q (match o with | some x => x :: xs | none => xs) w := by
  rw [compGo, wp_bind]
  refine iff_of_eq (congrArg _ (funext fun o => funext fun w => ?_))
  rw [wp_bind]
  simp only [wp_ok]
  try rfl
@[simp] theorem tup_t {ds : List D} : biD .tuple [.tup ds] = some (.tup ds) := rfl
@[simp] theorem tup_l {ds : List D} : biD .tuple [.lst ds] = some (.tup ds) := rfl
@[simp] theorem lst_t {ds : List D} : biD .list [.tup ds] = some (.lst ds) := rfl
@[simp] theorem lst_l {ds : List D} : biD .list [.lst ds] = some (.lst ds) := rfl
@[simp] theorem min_i {i j : Int} : biD .min [.int i, .int j] = some (.int (if j < i then j else i)) := rfl
@[simp] theorem max_i {i j : Int} : biD .max [.int i, .int j] = some (.int (if j > i then j else i)) := rfl
end
theorem rng_len {lo : Int} {n : Nat} : (rngD lo n).length = n := by simp [rngD]
theorem rng_mem {lo : Int} {n : Nat} {d : D} (h : d ∈ rngD lo n) : ∃ i : Nat, i < n ∧ d = .int (lo + i) := by
  obtain ⟨i, hi, rfl⟩ := List.mem_map.mp h
  exact ⟨i, List.mem_range.mp hi, rfl⟩
end LL
/-! == P01m == -/
set_option Elab.async false
set_option linter.all false
set_option maxRecDepth 1000000
set_option maxHeartbeats 1000000
namespace LL
open PySem
variable {tb : List (Nat × Rn)} {m k n : Nat} {w0 w : W} {Z : Zp} {Q : D → W → Prop}
theorem c_law_any [C_law_any tb] (hk : 1 ≤ k) (hw : Dw n w0 w) {bound : Int} (h0 : 0 < bound) (h1 : bound < 1073741824) (q : ∀ (j : Nat) (w' : W), (j : Int) < bound → Dw n w0 w' → Q (.int j) w') : wp (run tb m k F_law_any [.ob n, .int bound] w) Z Q :=
  wp_draw C_law_any.own hk hw h0 h1 q
theorem c_law_of [C_law_of tb] (hk : 2 ≤ k) (hw : Dw n w0 w) {xs : List D} (h0 : xs ≠ []) (hl : xs.length ≤ big) (q : ∀ x ∈ xs, ∀ w', Dw n w0 w' → Q x w') : wp (run tb m k F_law_of [.ob n, .lst xs] w) Z Q := by
  refine wp_enter C_law_of.own rfl hk fun k hk => ?_
  unfold b_law_of
  simp
  have hp : 0 < xs.length := List.length_pos_iff.mpr h0
  have hb : big < 1073741824 := by decide
  refine c_law_any (by omega) hw (by omega) (by omega) fun j w' hj hw' => ?_
  have hj : j < xs.length := by omega
  rw [ix_nat hj]
  exact q _ (List.getElem_mem hj) w' hw'
theorem c_law_mixed [C_law_mixed tb] (hk : 2 ≤ k) (hw : Dw n w0 w) {xs : List D} (hm : xs.length < m) (hl : xs.length < big) (q : ∀ ys w', ys.Perm xs → Dw n w0 w' → Q (.lst ys) w') : wp (run tb m k F_law_mixed [.ob n, .lst xs] w) Z Q := by
  refine wp_enter C_law_mixed.own rfl hk fun k hk => ?_
  unfold b_law_mixed
  have hb : (0 : Nat) ≤ big ∧ big < 1073741824 := by decide
  simp [hb, biD]
  refine wh_inv (I := fun c s w' => Dw n w0 w' ∧ ∃ left found, c = left.length ∧ s = [.val (.ob n), .val (.lst xs), .own left, .own found] ∧ (left ++ found).Perm xs) ?_ _ xs.length _ _ ⟨hw, xs, [], rfl, rfl, by simp⟩ hm
  rintro c s w' ⟨hw', left, found, rfl, rfl, hp⟩
  simp
  refine ne_nil ?_
  cases left with
  | nil =>
    simp
    exact q _ _ (by simpa using hp) hw'
  | cons x left =>
    have hlen := hp.length_eq
    simp at hlen
    simp
    refine c_law_any (by omega) hw' (by omega) (by omega) fun j w2 hj hw2 => ?_
    have hj : j < (x :: left).length := by simp; omega
    have hj2 : j < left.length + 1 := by omega
    simp [ixN_nat hj2, okI_nat (j := j) (by omega), List.getElem?_eq_getElem hj]
    refine ⟨by omega, left.length, by omega, hw2, (x :: left).eraseIdx j, ?_, found ++ [(x :: left)[j]], ⟨rfl, rfl⟩, ?_⟩
    · rw [List.length_eraseIdx_of_lt hj]; simp
    · refine List.Perm.trans ?_ hp
      rw [← List.append_assoc]
      refine (List.perm_append_singleton _ _).trans ?_
      rw [← List.cons_append]
      exact (eraseIdx_perm hj).append_right _
theorem toInts_map (ns : List Int) : D.toInts (ns.map .int) = some ns := by
  induction ns with
  | nil => rfl
  | cons n ns ih => simp [D.toInts, ih]
theorem ints_of {xs : List D} (h : ∀ x ∈ xs, ∃ i, x = D.int i) : ∃ ns : List Int, xs = ns.map .int := by
  induction xs with
  | nil => exact ⟨[], rfl⟩
  | cons x xs ih =>
    obtain ⟨i, rfl⟩ := h x (by simp)
    obtain ⟨ns, rfl⟩ := ih fun y hy => h y (by simp [hy])
    exact ⟨i :: ns, rfl⟩
theorem c_law_draw [C_law_draw tb] (hk : 1 ≤ k) {ns : List Int} {salt : Int} (hl : ns.length ≤ 1000) (hs : 0 ≤ salt ∧ salt < 1000) (q : ∀ cs b, cs.length ≤ 1000 → Q (.ob w.length) (w ++ [.deal cs b])) : wp (run tb m k F_law_draw [.scr ns, .int salt] w) Z Q := by
  refine wp_enter C_law_draw.own rfl hk fun k hk => ?_
  unfold b_law_draw
  have hb : (1000 : Nat) ≤ big := by decide
  simp [slD]
  refine comp_inv (I := fun w' => w' = w) (P := fun x => ∃ i, x = D.int i) (fun d hd w' hw' => ?_) rfl fun xs w' hw' hxl hx => ?_
  · subst hw'
    have : ∃ i, d = D.int i := by
      simp [cutD] at hd
      obtain ⟨i, _, rfl⟩ := List.mem_map.mp (List.mem_of_mem_drop (List.mem_of_mem_take hd))
      exact ⟨i, rfl⟩
    obtain ⟨i, rfl⟩ := this
    simp [biD, opD]
  · subst hw'
    obtain ⟨is, rfl⟩ := ints_of hx
    have hil : is.length ≤ 1000 := by
      refine Nat.le_trans (by simpa using hxl : is.length ≤ _) ?_
      simp [cutD]
      omega
    have hsalt : (-18446744073709551616 < salt) ∧ salt < 18446744073709551616 := by omega
    simp [opD, hsalt]
    refine ⟨by omega, ?_⟩
    refine for_inv (I := fun i s w2 => w2 = w' ∧ ∃ a c, s = [.val (.scr ns), .val (.int salt), .val (.lst (is.map .int)), a, .val (.int c)]) ⟨rfl, _, _, rfl⟩ ?_ ?_
    · rintro i d hd s w2 ⟨rfl, a, c, rfl⟩
      rw [List.getElem?_map] at hd
      cases h : is[i]? with
      | none => rw [h] at hd; cases hd
      | some z =>
        rw [h] at hd; cases hd
        simp [opD, biD]
    · rintro s w2 ⟨rfl, a, c, rfl⟩
      simp
      refine comp_inv (I := fun w' => w' = w2) (P := fun x => ∃ i, x = D.int i) (fun d hd w' hw' => ?_) rfl fun xs w' hw' hxl hx => ?_
      · subst hw'
        obtain ⟨z, _, rfl⟩ := List.mem_map.mp hd
        simp [opD]
        by_cases hz : (1000000000000000000 : Int) ≤ z <;> simp [hz]
      · subst hw'
        obtain ⟨is2, rfl⟩ := ints_of hx
        simp at hxl
        simp
        rw [← List.map_reverse, toInts_map]
        exact ⟨by omega, q _ _ (by simp; omega)⟩
end LL
/-! == P01o == -/
set_option Elab.async false
set_option linter.all false
set_option maxRecDepth 1000000
set_option maxHeartbeats 1000000
namespace LL
open PySem
variable {tb : List (Nat × Rn)} {m k n : Nat} {w0 w : W} {Z : Zp} {Q : D → W → Prop}
/-- the sets that laws draw -/
inductive SomeSet : Int → D → Prop
  | a : SomeSet 1 (.tup [.str "set", .int 1, .tup [.int 1], .tup [.tup [.int 0, .int 0]]])
  | b : SomeSet 1 (.tup [.str "set", .int 1, .tup [.int 0], .tup [.tup [.int 0, .int 0]]])
  | c : SomeSet 1 (.tup [.str "set", .int 1, .tup [.int 1, .int 0], .tup [.tup [.int 0, .int 1], .tup [.int 1, .int 1]]])
  | d : SomeSet 1 (.tup [.str "set", .int 1, .tup [.int 0, .int 1], .tup [.tup [.int 0, .int 1], .tup [.int 1, .int 1]]])
  | zero (j : Nat) (h : j < 2) : SomeSet 0 (.tup [.str "set", .int 0, .tup [.int j], .tup [.tup [.int 0]]])
  | two (j : Nat) (h : j < 2) : SomeSet 2 (.tup [.str "set", .int 2, .tup [.int j], .tup [.tup [.int 0, .int 0, .int 0, .int 0]]])
theorem c_law_some_set [C_law_some_set tb] (hk : 3 ≤ k) (hw : Dw n w0 w) {many : Int} (hm : many = 0 ∨ many = 1 ∨ many = 2) (q : ∀ d w', SomeSet many d → Dw n w0 w' → Q d w') : wp (run tb m k F_law_some_set [.ob n, .int many] w) Z Q := by
  refine wp_enter C_law_some_set.own rfl hk fun k hk => ?_
  unfold b_law_some_set
  have hb : (5 : Nat) ≤ big ∧ 4 ≤ big ∧ 3 ≤ big ∧ 2 ≤ big ∧ 1 ≤ big := by decide
  rcases hm with rfl | rfl | rfl
  · simp [hb]
    refine c_law_any (by omega) hw (by omega) (by omega) fun j w' hj hw' => ?_
    simp [hb, opD]
    exact q _ _ (.zero j (by omega)) hw'
  · simp [hb]
    refine c_law_of (by omega) hw (by simp) (by simp [hb]) fun x hx w' hw' => ?_
    simp only [List.mem_cons, List.not_mem_nil, or_false] at hx
    rcases hx with rfl | rfl | rfl | rfl
    · exact q _ _ .a hw'
    · exact q _ _ .b hw'
    · exact q _ _ .c hw'
    · exact q _ _ .d hw'
  · simp [hb]
    refine c_law_any (by omega) hw (by omega) (by omega) fun j w' hj hw' => ?_
    simp [hb, opD, ixL2, List.replicate]
    exact q _ _ (.two j (by omega)) hw'
/-- drawn parts: kind, the names that may be known, how deep -/
inductive Pt (hs : List (Str × Nat)) : Str → List Str → Int → D → Prop
  | num (ns deep) (i : Nat) (h : i < 60) : Pt hs "e" ns deep (.tup [.str "num", .int i])
  | name (ns deep x) (h : x ∈ ns) : Pt hs "e" ns deep (.tup [.str "name", .str x])
  | add (ns deep a b) (h : 1 ≤ deep) (ha : Pt hs "e" ns (deep - 1) a) (hb : Pt hs "e" ns (deep - 1) b) : Pt hs "e" ns deep (.tup [.str "add", a, b])
  | sub (ns deep a b) (h : 1 ≤ deep) (ha : Pt hs "e" ns (deep - 1) a) (hb : Pt hs "e" ns (deep - 1) b) : Pt hs "e" ns deep (.tup [.str "sub", a, b])
  | mul (ns deep) (i : Nat) (a) (h : 1 ≤ deep) (hi : i ≤ 3) (ha : Pt hs "e" ns (deep - 1) a) : Pt hs "e" ns deep (.tup [.str "mul", .int i, a])
  | div (ns deep a) (i : Nat) (h : 1 ≤ deep) (hi : 1 ≤ i ∧ i ≤ 7) (ha : Pt hs "e" ns (deep - 1) a) : Pt hs "e" ns deep (.tup [.str "div", a, .int i])
  | rest (ns deep a) (i : Nat) (h : 1 ≤ deep) (hi : 1 ≤ i ∧ i ≤ 7) (ha : Pt hs "e" ns (deep - 1) a) : Pt hs "e" ns deep (.tup [.str "rest", a, .int i])
  | ite (ns deep c a b) (h : 1 ≤ deep) (hc : Pt hs "t" ns (deep - 1) c) (ha : Pt hs "e" ns (deep - 1) a) (hb : Pt hs "e" ns (deep - 1) b) : Pt hs "e" ns deep (.tup [.str "if", c, a, b])
  | fail (ns deep x) (h : 1 ≤ deep) (hx : x ∈ (["far", "odd", "f", "x", "abcdefghijkl", "abcdefghijkm"] : List Str)) : Pt hs "e" ns deep (.tup [.str "fail", .str x])
  | call (ns deep f) (many : Nat) (as) (h : 1 ≤ deep) (hf : (f, many) ∈ hs) (hl : as.length = many) (ha : ∀ a, a ∈ as → Pt hs "e" ns (deep - 2) a) : Pt hs "e" ns deep (.tup [.str "call", .str f, .tup as])
  | let_ (ns deep x a b) (h : 1 ≤ deep) (hx : x ∈ (["x", "y", "v0", "z"] : List Str) ++ ns) (ha : Pt hs "e" ns (deep - 2) a) (hb : Pt hs "e" (ns.filter (fun y => !decide (y = x)) ++ [x]) (deep - 2) b) : Pt hs "e" ns deep (.tup [.str "let", .str x, a, b])
  | times (ns deep) (i : Nat) (x a b) (h : 1 ≤ deep) (hi : i ≤ 3) (hx : x ∈ (["x", "y", "v0", "z"] : List Str) ++ ns) (ha : Pt hs "e" ns (deep - 2) a) (hb : Pt hs "e" (ns.filter (fun y => !decide (y = x)) ++ [x]) (deep - 2) b) : Pt hs "e" ns deep (.tup [.str "times", .int i, .str x, a, b])
  | less (ns deep a b) (ha : Pt hs "e" ns (deep - 1) a) (hb : Pt hs "e" ns (deep - 1) b) : Pt hs "t" ns deep (.tup [.str "less", a, b])
  | same (ns deep a b) (ha : Pt hs "e" ns (deep - 1) a) (hb : Pt hs "e" ns (deep - 1) b) : Pt hs "t" ns deep (.tup [.str "same", a, b])
  | not (ns deep a) (h : 2 ≤ deep) (ha : Pt hs "t" ns (deep - 1) a) : Pt hs "t" ns deep (.tup [.str "not", a])
  | both (ns deep a b) (h : 2 ≤ deep) (ha : Pt hs "t" ns (deep - 1) a) (hb : Pt hs "t" ns (deep - 1) b) : Pt hs "t" ns deep (.tup [.str "both", a, b])
  | either (ns deep a b) (h : 2 ≤ deep) (ha : Pt hs "t" ns (deep - 1) a) (hb : Pt hs "t" ns (deep - 1) b) : Pt hs "t" ns deep (.tup [.str "either", a, b])
  | in_ (ns deep) (many : Nat) (s as) (hs' : SomeSet many s) (hl : as.length = many) (ha : ∀ a, a ∈ as → Pt hs "e" ns (min (deep - 1) 1) a) : Pt hs "t" ns deep (.tup [.str "in", s, .tup as])
def headD (h : Str × Nat) : D := .tup [.str h.1, .int h.2]
def namesD (ns : List Str) : D := .lst (ns.map .str)
def headsD (hs : List (Str × Nat)) : D := .lst (hs.map headD)
/-- the promise of a draw of a part -/
def SpOk (tb : List (Nat × Rn)) (m k n : Nat) (w0 : W) (hs : List (Str × Nat)) (kind : Str) (ns : List Str) (deep : Int) : Prop :=
  ∀ {w : W} {Z : Zp} {Q : D → W → Prop}, Dw n w0 w → (∀ d w', Pt hs kind ns deep d → Dw n w0 w' → Q d w') → wp (run tb m k F_law_some_part [.ob n, .str kind, namesD ns, headsD hs, .int deep] w) Z Q
theorem str_ee : (Str.ofString "ee").cps = #[101, 101] := by decide +kernel
theorem str_t : (Str.ofString "t").cps = #[116] := by decide +kernel
theorem str_tt : (Str.ofString "tt").cps = #[116, 116] := by decide +kernel
theorem str_tee : (Str.ofString "tee").cps = #[116, 101, 101] := by decide +kernel
theorem ch_e : (⟨#[101]⟩ : Str) = Str.ofString "e" := by decide +kernel
theorem ch_t : (⟨#[116]⟩ : Str) = Str.ofString "t" := by decide +kernel
theorem ix_less : ixD formsD (.str "less") = some (.str "ee") := by rw [ix_forms]; exact congrArg (Option.map D.str) (show lookS "less" formsK formsV = some "ee" from by decide +kernel)
theorem ix_same : ixD formsD (.str "same") = some (.str "ee") := by rw [ix_forms]; exact congrArg (Option.map D.str) (show lookS "same" formsK formsV = some "ee" from by decide +kernel)
theorem ix_not : ixD formsD (.str "not") = some (.str "t") := by rw [ix_forms]; exact congrArg (Option.map D.str) (show lookS "not" formsK formsV = some "t" from by decide +kernel)
theorem ix_both : ixD formsD (.str "both") = some (.str "tt") := by rw [ix_forms]; exact congrArg (Option.map D.str) (show lookS "both" formsK formsV = some "tt" from by decide +kernel)
theorem ix_either : ixD formsD (.str "either") = some (.str "tt") := by rw [ix_forms]; exact congrArg (Option.map D.str) (show lookS "either" formsK formsV = some "tt" from by decide +kernel)
theorem ix_add : ixD formsD (.str "add") = some (.str "ee") := by rw [ix_forms]; exact congrArg (Option.map D.str) (show lookS "add" formsK formsV = some "ee" from by decide +kernel)
theorem ix_sub : ixD formsD (.str "sub") = some (.str "ee") := by rw [ix_forms]; exact congrArg (Option.map D.str) (show lookS "sub" formsK formsV = some "ee" from by decide +kernel)
theorem ix_if : ixD formsD (.str "if") = some (.str "tee") := by rw [ix_forms]; exact congrArg (Option.map D.str) (show lookS "if" formsK formsV = some "tee" from by decide +kernel)
theorem two_of [C_law_of tb] {b : Bool} {xs ys : List D} {P : D → W → Prop} (hk : 2 ≤ k) (hw : Dw n w0 w) (x0 : xs ≠ []) (y0 : ys ≠ []) (xl : xs.length ≤ big) (yl : ys.length ≤ big) (q : ∀ x w', (b = true ∧ x ∈ xs ∨ b = false ∧ x ∈ ys) → Dw n w0 w' → P x w') :
    two b (wp (run tb m k F_law_of [.ob n, .lst xs] w) Z P) (wp (run tb m k F_law_of [.ob n, .lst ys] w) Z P) := by
  cases b with
  | true => exact two_t.mpr (c_law_of hk hw x0 xl fun x hx w' hw' => q x w' (.inl ⟨rfl, hx⟩) hw')
  | false => exact two_f.mpr (c_law_of hk hw y0 yl fun x hx w' hw' => q x w' (.inr ⟨rfl, hx⟩) hw')
theorem it_ee : (List.map (fun c => D.str ⟨#[c]⟩) (Str.ofString "ee").cps.toList) = [.str "e", .str "e"] := by rw [str_ee]; simp [ch_e]
theorem it_t : (List.map (fun c => D.str ⟨#[c]⟩) (Str.ofString "t").cps.toList) = [.str "t"] := by rw [str_t]; simp [ch_t]
theorem it_tt : (List.map (fun c => D.str ⟨#[c]⟩) (Str.ofString "tt").cps.toList) = [.str "t", .str "t"] := by rw [str_tt]; simp [ch_t]
theorem it_tee : (List.map (fun c => D.str ⟨#[c]⟩) (Str.ofString "tee").cps.toList) = [.str "t", .str "e", .str "e"] := by rw [str_tee]; simp [ch_e, ch_t]
theorem sp_test [C_law_some_part tb] {k : Nat} {hs : List (Str × Nat)} {ns : List Str} {deep : Int} (hk : 4 ≤ k) (h1 : SpOk tb m k n w0 hs "e" ns (deep - 1)) (h2 : 2 ≤ deep → SpOk tb m k n w0 hs "t" ns (deep - 1)) (h3 : SpOk tb m k n w0 hs "e" ns (min (deep - 1) 1)) : SpOk tb m (k + 1) n w0 hs "t" ns deep := by
  intro w Z Q hw q
  refine (wp_run C_law_some_part.own rfl).mpr ?_
  have hb : (6 : Nat) ≤ big ∧ 5 ≤ big ∧ 4 ≤ big ∧ 3 ≤ big ∧ 2 ≤ big ∧ 1 ≤ big := by decide
  simp only [b_law_some_part, namesD, headsD]
  simp [hb]
  refine two_of (by omega) hw (by simp) (by simp) (by simp [hb]) (by simp [hb]) fun x w1 hx hw1 => ?_
  have hx2 : x = .str "in" ∨ x = .str "less" ∨ x = .str "same" ∨ (2 ≤ deep ∧ (x = .str "not" ∨ x = .str "both" ∨ x = .str "either")) := by
    rcases hx with ⟨_, hx⟩ | ⟨hd, hx⟩
    · simp at hx; rcases hx with h | h | h | h | h <;> simp [h]
    · have : 2 ≤ deep := by simpa using hd
      simp at hx; rcases hx with h | h | h | h | h | h <;> simp [h, this]
  have two_ : ∀ {e : Env} {kd : Str} {P : List D → W → Prop} {w : W} {f : D → W → R (Option D × W)} {a b : D}, Dw n w0 w → (∀ w, Dw n w0 w → ∀ {Q : Option D → W → Prop}, (∀ d w', Pt hs kd ns (deep - 1) d → Dw n w0 w' → Q (some d) w') → wp (f a w) noZ Q) → (∀ w, Dw n w0 w → ∀ {Q : Option D → W → Prop}, (∀ d w', Pt hs kd ns (deep - 1) d → Dw n w0 w' → Q (some d) w') → wp (f b w) noZ Q) →
      (∀ x y w', Pt hs kd ns (deep - 1) x → Pt hs kd ns (deep - 1) y → Dw n w0 w' → P [x, y] w') → wp (compGo f [a, b] w) noZ P := by
    intro e kd P w f a b hw ha hb k
    rw [cg_cons]
    refine ha w hw fun x w1 hx hw1 => ?_
    rw [cg_cons]
    refine hb w1 hw1 fun y w2 hy hw2 => ?_
    rw [cg_nil]
    exact k x y w2 hx hy hw2
  have hmin : (if 1 < deep - 1 then 1 else deep - 1) = min (deep - 1) 1 := by rw [Int.min_def]; split <;> split <;> omega
  rcases hx2 with rfl | rfl | rfl | ⟨hd, rfl | rfl | rfl⟩
  · simp
    refine c_law_of (by omega) hw1 (by simp) (by simp [hb]) fun x hx w2 hw2 => ?_
    have hx3 : ∃ many : Nat, x = .int many ∧ (many = 0 ∨ many = 1 ∨ many = 2) := by
      simp at hx
      rcases hx with h | h | h
      · exact ⟨0, by simp [h], by omega⟩
      · exact ⟨1, by simp [h], by omega⟩
      · exact ⟨2, by simp [h], by omega⟩
    obtain ⟨many, rfl, hm⟩ := hx3
    refine c_law_some_set (by omega) hw2 (by omega) fun s w3 hs3 hw3 => ?_
    simp [okI_nat (j := many) (by omega)]
    refine comp_draw (P := Pt hs "e" ns (min (deep - 1) 1)) hw3 (fun d hd w hw => ?_) fun xs w4 hw4 hl hxs => ?_
    · simp [hmin]
      exact h3 hw fun d w' hd hw' => ⟨hw', hd⟩
    · rw [rng_len] at hl
      exact ⟨by omega, q _ _ (.in_ _ _ many _ _ hs3 hl hxs) hw4⟩
  · simp
    refine c_law_forms (by omega) ?_
    simp [ix_less, it_ee]
    refine two_ (e := []) (kd := "e") hw1 (fun w hw Q hQ => ?_) (fun w hw Q hQ => ?_) fun x y w' hx hy hw' => ?_
    · simp; exact h1 hw hQ
    · simp; exact h1 hw hQ
    · simp [hb]; exact q _ _ (.less _ _ _ _ hx hy) hw'
  · simp
    refine c_law_forms (by omega) ?_
    simp [ix_same, it_ee]
    refine two_ (e := []) (kd := "e") hw1 (fun w hw Q hQ => ?_) (fun w hw Q hQ => ?_) fun x y w' hx hy hw' => ?_
    · simp; exact h1 hw hQ
    · simp; exact h1 hw hQ
    · simp [hb]; exact q _ _ (.same _ _ _ _ hx hy) hw'
  · simp
    refine c_law_forms (by omega) ?_
    simp [ix_not, it_t]
    rw [cg_cons]
    simp
    refine h2 hd hw1 fun x w' hx hw' => ?_
    simp [cg_nil, hb]
    exact q _ _ (.not _ _ _ hd hx) hw'
  · simp
    refine c_law_forms (by omega) ?_
    simp [ix_both, it_tt]
    refine two_ (e := []) (kd := "t") hw1 (fun w hw Q hQ => ?_) (fun w hw Q hQ => ?_) fun x y w' hx hy hw' => ?_
    · simp; exact h2 hd hw hQ
    · simp; exact h2 hd hw hQ
    · simp [hb]; exact q _ _ (.both _ _ _ _ hd hx hy) hw'
  · simp
    refine c_law_forms (by omega) ?_
    simp [ix_either, it_tt]
    refine two_ (e := []) (kd := "t") hw1 (fun w hw Q hQ => ?_) (fun w hw Q hQ => ?_) fun x y w' hx hy hw' => ?_
    · simp; exact h2 hd hw hQ
    · simp; exact h2 hd hw hQ
    · simp [hb]; exact q _ _ (.either _ _ _ _ hd hx hy) hw'
end LL
/-! == P01p == -/
set_option Elab.async false
set_option linter.all false
set_option maxRecDepth 1000000
set_option maxHeartbeats 1000000
namespace LL
open PySem
variable {tb : List (Nat × Rn)} {m k n : Nat} {w0 w : W} {Z : Zp} {Q : D → W → Prop}
theorem ne_nilm {α : Type} {f : α → D} {xs : List α} {Q : Bool → Prop} (h : Q (!xs.isEmpty)) : po (cmD .ne (.lst (xs.map f)) (.lst [])) Q := ne_nil (by simpa using h)
theorem eq_nilm {α : Type} {f : α → D} {xs : List α} {Q : Bool → Prop} (h : Q xs.isEmpty) : po (cmD .eq (.lst (xs.map f)) (.lst [])) Q := eq_nil (by simpa using h)
theorem in_two (s a b : Str) : cmD .in_ (.str s) (.lst [.str a, .str b]) = some (decide (s = a ∨ s = b)) := by
  have := in_lst s [a, b]
  simpa using this
theorem by17 {x : D} (hx : x ∈ [D.int 1, .int 2, .int 2, .int 3, .int 4, .int 5, .int 7]) : ∃ i : Nat, x = .int i ∧ 1 ≤ i ∧ i ≤ 7 := by
  simp at hx
  rcases hx with h | h | h | h | h | h
  · exact ⟨1, by simp [h], by omega⟩
  · exact ⟨2, by simp [h], by omega⟩
  · exact ⟨3, by simp [h], by omega⟩
  · exact ⟨4, by simp [h], by omega⟩
  · exact ⟨5, by simp [h], by omega⟩
  · exact ⟨7, by simp [h], by omega⟩
theorem byx {x : D} {ns : List Str} (hx : x ∈ D.str "x" :: D.str "y" :: D.str "v0" :: D.str "z" :: ns.map D.str) : ∃ y, x = .str y ∧ y ∈ (["x", "y", "v0", "z"] : List Str) ++ ns := by
  simp at hx
  rcases hx with h | h | h | h | ⟨y, hy, h⟩
  · exact ⟨_, h, by simp⟩
  · exact ⟨_, h, by simp⟩
  · exact ⟨_, h, by simp⟩
  · exact ⟨_, h, by simp⟩
  · exact ⟨y, h.symm, by simp [hy]⟩
/-- the names but one -/
theorem flt {Φ : Fns} {env : Env} {v i : Nat} {x : Str} {ns : List Str} {P : List D → W → Prop} {w : W} (k : P ((ns.filter fun y => !decide (y = x)).map .str) w) (h1 : ∀ d, bindT (.one v) d (wipeE env [v]) = some ((wipeE env [v]).set v (some d))) (h2 : ∀ d : D, ((wipeE env [v]).set v (some d))[v]? = some (some d)) (h3 : ∀ d : D, ((wipeE env [v]).set v (some d))[i]? = some (some (.str x))) :
    wp (compGo (compB Φ env (.one v) (.cm .ne (.v v) (.v i)) (.v v) [v]) (ns.map .str) w) noZ P := by
  refine comp_pure (g := fun d => match d with | D.str y => if y = x then none else some (D.str y) | _ => none) (fun d hd => ?_) ?_
  · obtain ⟨y, _, rfl⟩ := List.mem_map.mp hd
    simp only [wc_any, np_cm, two_f, h1, po_some, w_cm, w_v, h2, h3, Option.bind_some, id_eq, cn_s, bp_bl]
    by_cases e : y = x <;> simp [e]
  · have e : ∀ ns : List Str, (ns.map D.str).filterMap (fun d => match d with | D.str y => if y = x then none else some (D.str y) | _ => none) = (ns.filter fun y => !decide (y = x)).map .str := by
      intro ns
      induction ns with
      | nil => rfl
      | cons y ns ih => by_cases h : y = x <;> simp [h] <;> simpa using ih
    rw [e]; exact k
theorem sp_expr [C_law_some_part tb] {k : Nat} {hs : List (Str × Nat)} {ns : List Str} {deep : Int} (hk : 4 ≤ k) (hhs : hs.length ≤ 1000) (hha : ∀ h ∈ hs, h.2 ≤ 1000) (hns : ns.length ≤ 1000)
    (h1 : 1 ≤ deep → SpOk tb m k n w0 hs "e" ns (deep - 1)) (h2 : 1 ≤ deep → SpOk tb m k n w0 hs "t" ns (deep - 1)) (h3 : 1 ≤ deep → SpOk tb m k n w0 hs "e" ns (deep - 2))
    (h4 : 1 ≤ deep → ∀ x, SpOk tb m k n w0 hs "e" (ns.filter (fun y => !decide (y = x)) ++ [x]) (deep - 2)) : SpOk tb m (k + 1) n w0 hs "e" ns deep := by
  intro w Z Q hw q
  refine (wp_run C_law_some_part.own rfl).mpr ?_
  have hb : (14 : Nat) ≤ big ∧ 7 ≤ big ∧ (6 : Nat) ≤ big ∧ 5 ≤ big ∧ 4 ≤ big ∧ 3 ≤ big ∧ 2 ≤ big ∧ 1 ≤ big := by decide
  have hb2 : (2000 : Nat) ≤ big := by decide
  have eet : ¬ Str.ofString "e" = Str.ofString "t" := by decide +kernel
  simp only [b_law_some_part, namesD, headsD]
  -- not a test
  refine x_step (I := fun s w' => w' = w ∧ s = [.val (.ob n), .val (.str "e"), .val (namesD ns), .val (headsD hs), .val (.int deep), .no, .no, .no, .no, .no, .no, .no, .no, .no, .no]) (by simp [namesD, headsD]) ?_
  rintro s w' ⟨rfl, rfl⟩
  -- a leaf
  have leaf : ∀ {w1 : W} {Q2 : D → W → Prop}, Dw n w0 w1 → (∀ d w', (Pt hs "e" ns deep d) → Dw n w0 w' → Q2 d w') → wpS (execs (run tb m k) m
      (.cons (.set [] [] (.one 10) (.tup (.cons (.c (.str "num")) (.cons (.call F_law_of (.cons (.v 0) (.cons (.lst (.cons (.c (.int 0)) (.cons (.c (.int 1)) (.cons (.c (.int 2)) (.cons (.c (.int 3)) (.cons (.c (.int 5)) (.cons (.c (.int 9)) (.cons (.call F_law_any (.cons (.v 0) (.cons (.c (.int 60)) .nil))) .nil)))))))) .nil))) .nil))))
      (.cons (.ret [] (.ite (.and_ (.cm .ne (.v 2) (.lst .nil)) (.cm .gt (.call F_law_any (.cons (.v 0) (.cons (.c (.int 3)) .nil))) (.c (.int 0)))) (.tup (.cons (.c (.str "name")) (.cons (.call F_law_of (.cons (.v 0) (.cons (.v 2) .nil))) .nil))) (.v 10)))
      .nil)) [.val (.ob n), .val (.str "e"), .val (namesD ns), .val (headsD hs), .val (.int deep), .no, .no, .no, .no, .no, .no, .no, .no, .no, .no] w1) (PoF Z Q2) := by
    intro w1 Q2 hw1 q2
    simp
    refine c_law_any (by omega) hw1 (by omega) (by omega) fun j w2 hj hw2 => ?_
    simp [hb]
    refine c_law_of (by omega) hw2 (by simp) (by simp [hb]) fun x hx w3 hw3 => ?_
    have hx2 : ∃ i : Nat, x = .int i ∧ i < 60 := by
      simp at hx
      rcases hx with h | h | h | h | h | h | h
      · exact ⟨0, by simp [h], by omega⟩
      · exact ⟨1, by simp [h], by omega⟩
      · exact ⟨2, by simp [h], by omega⟩
      · exact ⟨3, by simp [h], by omega⟩
      · exact ⟨5, by simp [h], by omega⟩
      · exact ⟨9, by simp [h], by omega⟩
      · exact ⟨j, h, by omega⟩
    obtain ⟨i, rfl, hi⟩ := hx2
    simp [hb, namesD]
    refine ne_nilm ?_
    cases hne : ns.isEmpty with
    | true => simp; exact q2 _ _ (.num _ _ i hi) hw3
    | false =>
      have hns0 : ns ≠ [] := by simpa using hne
      simp
      refine c_law_any (by omega) hw3 (by omega) (by omega) fun j w4 hj hw4 => ?_
      simp
      by_cases hj0 : 0 < j
      · simp [hj0]
        refine c_law_of (by omega) hw4 (by simpa using hns0) (by simp; omega) fun x hx w5 hw5 => ?_
        obtain ⟨y, hy, rfl⟩ := List.mem_map.mp hx

        exact q2 _ _ (.name _ _ y hy) hw5
      · simp only [hj0, decide_false, two_f]
        exact q2 _ _ (.num _ _ i hi) hw4
  refine x_step (I := fun s w' => Dw n w0 w' ∧ 1 ≤ deep ∧ s = [.val (.ob n), .val (.str "e"), .val (namesD ns), .val (headsD hs), .val (.int deep), .no, .no, .no, .no, .no, .no, .no, .no, .no, .no]) ?_ ?_
  · rw [x_iff]
    simp
    by_cases hd : deep < 1
    · simp only [hd, decide_true, two_t]
      simpa using leaf hw q
    · simp only [hd, decide_false, two_f]
      refine c_law_any (by omega) hw (by omega) (by omega) fun j w2 hj hw2 => ?_
      simp
      by_cases hj0 : j = 0
      · subst hj0
        simp
        have := leaf hw2 q
        simpa using this
      · have : ¬ (j : Int) = 0 := by omega
        simp [hj0]
        exact ⟨hw2, by omega⟩
  rintro s w1 ⟨hw1, hd, rfl⟩
  -- the word
  have words : ∀ x : D, x ∈ [D.str "add", .str "add", .str "sub", .str "sub", .str "mul", .str "div", .str "rest", .str "if", .str "if", .str "let", .str "times", .str "call", .str "call", .str "fail"] → ∃ y : Str, x = .str y ∧ y ∈ (["add", "sub", "mul", "div", "rest", "if", "let", "times", "call", "fail"] : List Str) := by
    intro x hx
    simp at hx
    rcases hx with h | h | h | h | h | h | h | h | h | h <;> exact ⟨_, h, by simp⟩
  refine x_step (I := fun s w' => Dw n w0 w' ∧ ∃ y : Str, y ∈ (["add", "sub", "mul", "div", "rest", "if", "let", "times", "call", "fail"] : List Str) ∧ s = [.val (.ob n), .val (.str "e"), .val (namesD ns), .val (headsD hs), .val (.int deep), .val (.str y), .no, .no, .no, .no, .no, .no, .no, .no, .no]) ?_ ?_
  · simp [hb]
    refine c_law_of (by omega) hw1 (by simp) (by simp [hb]) fun x hx w3 hw3 => ?_
    obtain ⟨y, rfl, hy⟩ := words x hx
    exact ⟨hw3, by simpa using hy⟩
  rintro s w2 ⟨hw2, y, hy, rfl⟩
  refine x_step (I := fun s w' => Dw n w0 w' ∧ ∃ y : Str, (y ∈ (["add", "sub", "mul", "div", "rest", "if", "let", "times", "fail"] : List Str) ∨ y = "call" ∧ hs ≠ []) ∧ s = [.val (.ob n), .val (.str "e"), .val (namesD ns), .val (headsD hs), .val (.int deep), .val (.str y), .no, .no, .no, .no, .no, .no, .no, .no, .no]) ?_ ?_
  · by_cases hf : y = "fail"
    · subst hf
      simp
      refine c_law_any (by omega) hw2 (by omega) (by omega) fun j w3 hj hw3 => ?_
      by_cases hj0 : 0 < j
      · simp [hj0]; exact hw3
      · simp [hj0]; exact hw3
    · by_cases hc : y = "call"
      · subst hc
        simp [hf, headsD]
        refine eq_nilm ?_
        cases hh : hs.isEmpty with
        | true => simp; exact hw2
        | false =>
          have : hs ≠ [] := by simpa using hh
          simp [this]; exact hw2
      · simp [hf, hc]
        simp at hy
        exact ⟨hw2, by simp_all⟩
  rintro s w3 ⟨hw3, y, hy, rfl⟩
  have two_ : ∀ {P : List D → W → Prop} {w : W} {f : D → W → R (Option D × W)} {a b : D}, Dw n w0 w → (∀ w, Dw n w0 w → ∀ {Q : Option D → W → Prop}, (∀ d w', Pt hs "e" ns (deep - 1) d → Dw n w0 w' → Q (some d) w') → wp (f a w) noZ Q) → (∀ w, Dw n w0 w → ∀ {Q : Option D → W → Prop}, (∀ d w', Pt hs "e" ns (deep - 1) d → Dw n w0 w' → Q (some d) w') → wp (f b w) noZ Q) →
      (∀ x y w', Pt hs "e" ns (deep - 1) x → Pt hs "e" ns (deep - 1) y → Dw n w0 w' → P [x, y] w') → wp (compGo f [a, b] w) noZ P := by
    intro P w f a b hw ha hb k
    rw [cg_cons]
    refine ha w hw fun x w1 hx hw1 => ?_
    rw [cg_cons]
    refine hb w1 hw1 fun y w2 hy hw2 => ?_
    rw [cg_nil]
    exact k x y w2 hx hy hw2
  rcases hy with hy | ⟨rfl, hh⟩
  · simp only [List.mem_cons, List.not_mem_nil, or_false] at hy
    rcases hy with rfl | rfl | rfl | rfl | rfl | rfl | rfl | rfl | rfl
    · simp [in_two, headsD, namesD, hb]
      refine c_law_forms (by omega) ?_
      simp [ix_add, it_ee]
      refine two_ hw3 (fun w hw Q hQ => ?_) (fun w hw Q hQ => ?_) fun x y w' hx hy hw' => ?_
      · simp; exact h1 hd hw hQ
      · simp; exact h1 hd hw hQ
      · simp [hb]; exact q _ _ (.add _ _ _ _ hd hx hy) hw'
    · simp [in_two, headsD, namesD, hb]
      refine c_law_forms (by omega) ?_
      simp [ix_sub, it_ee]
      refine two_ hw3 (fun w hw Q hQ => ?_) (fun w hw Q hQ => ?_) fun x y w' hx hy hw' => ?_
      · simp; exact h1 hd hw hQ
      · simp; exact h1 hd hw hQ
      · simp [hb]; exact q _ _ (.sub _ _ _ _ hd hx hy) hw'
    · simp [in_two, headsD, namesD, hb]
      refine c_law_of (by omega) hw3 (by simp) (by simp [hb]) fun x hx w4 hw4 => ?_
      have hx2 : ∃ i : Nat, x = .int i ∧ i ≤ 3 := by
        simp at hx
        rcases hx with h | h | h | h
        · exact ⟨0, by simp [h], by omega⟩
        · exact ⟨1, by simp [h], by omega⟩
        · exact ⟨2, by simp [h], by omega⟩
        · exact ⟨3, by simp [h], by omega⟩
      obtain ⟨i, rfl, hi⟩ := hx2
      refine h1 hd hw4 fun d w' hd2 hw' => ?_
      exact q _ _ (.mul _ _ i _ hd hi hd2) hw'
    · simp [in_two, headsD, namesD, hb]
      refine h1 hd hw3 fun d w4 hd2 hw4 => ?_
      refine c_law_of (by omega) hw4 (by simp) (by simp [hb]) fun x hx w5 hw5 => ?_
      obtain ⟨i, rfl, hi⟩ := by17 hx
      exact q _ _ (.div _ _ _ i hd hi hd2) hw5
    · simp [in_two, headsD, namesD, hb]
      refine h1 hd hw3 fun d w4 hd2 hw4 => ?_
      refine c_law_of (by omega) hw4 (by simp) (by simp [hb]) fun x hx w5 hw5 => ?_
      obtain ⟨i, rfl, hi⟩ := by17 hx
      exact q _ _ (.rest _ _ _ i hd hi hd2) hw5
    · simp [in_two, headsD, namesD, hb]
      refine c_law_forms (by omega) ?_
      simp [ix_if, it_tee]
      rw [cg_cons]
      simp
      refine h2 hd hw3 fun c w4 hc hw4 => ?_
      refine two_ hw4 (fun w hw Q hQ => ?_) (fun w hw Q hQ => ?_) fun x y w' hx hy hw' => ?_
      · simp; exact h1 hd hw hQ
      · simp; exact h1 hd hw hQ
      · simp [hb]; exact q _ _ (.ite _ _ _ _ _ hd hc hx hy) hw'
    · simp [in_two, headsD, namesD, hb]
      refine ⟨fun _ => ?_, by omega⟩
      refine c_law_of (by omega) hw3 (by simp) (by simp; omega) fun x hx w4 hw4 => ?_
      obtain ⟨x, rfl, hxn⟩ := byx hx
      refine h3 hd hw4 fun a w5 ha hw5 => ?_
      refine flt ?_ (fun _ => rfl) (fun _ => rfl) (fun _ => rfl)
      have lf : (ns.filter fun y => !decide (y = x)).length ≤ ns.length := List.length_filter_le _ _
      have := h4 hd x hw5 (Z := Z) (Q := fun d w => Q (D.tup [D.str "let", D.str x, a, d]) w) fun b w6 hb6 hw6 => q _ _ (.let_ _ _ _ _ _ hd hxn ha hb6) hw6
      refine ⟨by simp; omega, fun _ => by simpa [namesD, headsD] using this, by simp; omega⟩
    · simp [in_two, headsD, namesD, hb]
      refine ⟨fun _ => ?_, by omega⟩
      refine c_law_of (by omega) hw3 (by simp) (by simp; omega) fun x hx w4 hw4 => ?_
      obtain ⟨x, rfl, hxn⟩ := byx hx
      refine h3 hd hw4 fun a w5 ha hw5 => ?_
      refine flt ?_ (fun _ => rfl) (fun _ => rfl) (fun _ => rfl)
      have lf : (ns.filter fun y => !decide (y = x)).length ≤ ns.length := List.length_filter_le _ _
      have := h4 hd x hw5 (Z := Z) (Q := fun d w => wp (run tb m k F_law_of [D.ob n, D.lst [D.int 0, D.int 1, D.int 2, D.int 3]] w) Z fun i w => Q (D.tup [D.str "times", i, D.str x, a, d]) w) fun b w6 hb6 hw6 => ?_
      · refine ⟨by simp; omega, fun _ => by simpa [namesD, headsD] using this, by simp; omega⟩
      · refine c_law_of (by omega) hw6 (by simp) (by simp [hb]) fun x hx2 w7 hw7 => ?_
        have hx2 : ∃ i : Nat, x = .int i ∧ i ≤ 3 := by
          simp at hx2
          rcases hx2 with h | h | h | h
          · exact ⟨0, by simp [h], by omega⟩
          · exact ⟨1, by simp [h], by omega⟩
          · exact ⟨2, by simp [h], by omega⟩
          · exact ⟨3, by simp [h], by omega⟩
        obtain ⟨i, rfl, hi⟩ := hx2
        exact q _ _ (.times _ _ i _ _ _ hd hi hxn ha hb6) hw7
    · simp [in_two, headsD, namesD, hb]
      refine c_law_of (by omega) hw3 (by simp) (by simp [hb]) fun x hx w5 hw5 => ?_
      have hx2 : ∃ y : Str, x = .str y ∧ y ∈ (["far", "odd", "f", "x", "abcdefghijkl", "abcdefghijkm"] : List Str) := by
        simp at hx
        rcases hx with h | h | h | h | h | h <;> exact ⟨_, h, by simp⟩
      obtain ⟨y, rfl, hy⟩ := hx2
      exact q _ _ (.fail _ _ y hd hy) hw5
  · simp [in_two, headsD, namesD, hb]
    refine c_law_of (by omega) hw3 (by simpa using hh) (by simp; omega) fun x hx w4 hw4 => ?_
    obtain ⟨⟨f, many⟩, hf, rfl⟩ := List.mem_map.mp hx
    have := hha _ hf
    simp [headD, okI_nat (j := many) (by simp at this; omega)]
    refine comp_draw (P := Pt hs "e" ns (deep - 2)) hw4 (fun d hd' w hw => ?_) fun xs w4 hw4 hl hxs => ?_
    · simp
      have := h3 hd hw (Z := noZ) (Q := fun d w' => Dw n w0 w' ∧ Pt hs "e" ns (deep - 2) d) fun d w' hd hw' => ⟨hw', hd⟩
      simpa [namesD, headsD] using this
    · rw [rng_len] at hl
      simp at this
      exact ⟨by omega, q _ _ (.call _ _ f many _ hd hf hl hxs) hw4⟩
end LL
/-! == P01n == -/
set_option Elab.async false
set_option linter.all false
set_option maxRecDepth 1000000
set_option maxHeartbeats 1000000
namespace LL
open PySem
variable {tb : List (Nat × Rn)} {m k n : Nat} {w0 w : W} {Z : Zp} {Q : D → W → Prop}
theorem c_is_expression [Cis_expression tb] (hk : 8 ≤ k) (hm : 1000 ≤ m) {d : D} (h : d.gd = true) (q : Q (.bl (partB d "e")) w) : wp (run tb m k Fis_expression [d] w) Z Q := by
  refine wp_enter Cis_expression.own rfl hk fun k hk => ?_
  unfold bis_expression
  simp
  exact c_is_part (by omega) hm h q
theorem c_is_test [Cis_test tb] (hk : 8 ≤ k) (hm : 1000 ≤ m) {d : D} (h : d.gd = true) (q : Q (.bl (partB d "t")) w) : wp (run tb m k Fis_test [d] w) Z Q := by
  refine wp_enter Cis_test.own rfl hk fun k hk => ?_
  unfold bis_test
  simp
  exact c_is_part (by omega) hm h q
theorem sames_len : ∀ {xs ys : List D}, xs.length ≠ ys.length → D.sames xs ys = false
  | [], [], h => absurd rfl h
  | [], _ :: _, _ => rfl
  | _ :: _, [], _ => rfl
  | x :: xs, y :: ys, h => by
    have := sames_len (xs := xs) (ys := ys) (by simpa using h)
    simp [D.sames, this]
theorem sames_zip : ∀ {xs ys : List D}, xs.length = ys.length → D.sames xs ys = (xs.zip ys).all fun p => D.same p.1 p.2
  | [], [], _ => rfl
  | x :: xs, y :: ys, h => by
    have := sames_zip (xs := xs) (ys := ys) (by simpa using h)
    simp [D.sames, this]
  | [], _ :: _, h => by simp at h
  | _ :: _, [], h => by simp at h
theorem is_non {x : D} : cmD .is_ x .non = some (match x with | .non => true | _ => false) := rfl
theorem is_bl {x : D} {b : Bool} : cmD .is_ x (.bl b) = some (match x with | .bl c => c == b | _ => false) := rfl
/-- _law_same tells whether both are the same -/
theorem c_law_same [C_law_same tb] : ∀ (N : Nat) {k : Nat} (hk : N + 1 ≤ k) {v d : D} (hd : d.depth ≤ N) (gv : v.gd = true) (gd : d.gd = true) {w : W} {Z : Zp} {Q : D → W → Prop} (q : Q (.bl (D.same v d)) w), wp (run tb m k F_law_same [v, d] w) Z Q := by
  intro N
  induction N using Nat.strongRecOn with
  | ind N ih =>
  intro k hk v d hd gv gd w Z Q q
  refine wp_enter C_law_same.own rfl hk fun k hk => ?_
  unfold b_law_same
  have hb : 0 ≤ big := by decide
  have seqs : ∀ (xs ys : List D), D.depths ys + 1 ≤ N → (∀ x ∈ xs, x.gd = true) → (∀ y ∈ ys, y.gd = true) → xs.length ≤ lim → xs.length = ys.length → ∀ {e : Env} {Q : D → W → Prop}, Q (.bl (D.sames xs ys)) w →
      wp (compGo (compB (run tb m k) [some v, some d, none, none] (.many [2, 3]) (.not_ (.call F_law_same (.cons (.v 2) (.cons (.v 3) .nil)))) (.c (.int 0)) [2, 3]) ((xs.zip ys).map fun p => .tup [p.1, p.2]) w) noZ fun zs w => zs.length ≤ big ∧ po (cmD .eq (.lst zs) (.lst [])) fun t => Q (.bl t) w := by
    intro xs ys hdp gx gy hl he e Q hq
    refine comp_none (p := fun d => match d with | .tup [a, b] => D.same a b | _ => false) (g := fun _ => .int 0) (fun z hz => ?_) ?_ ?_
    · obtain ⟨p, hp, rfl⟩ := List.mem_map.mp hz
      have h1 := gx _ (List.of_mem_zip hp).1
      have h2 := gy _ (List.of_mem_zip hp).2
      have h3 := depths_le.mp (Nat.le_refl _) _ (List.of_mem_zip hp).2
      simp
      refine ih (D.depths ys) (by omega) (by omega) h3 h1 h2 ?_
      cases D.same p.1 p.2 <;> simp
    · simp
      exact Nat.le_trans (Nat.min_le_left _ _) (lim_big hl)
    · rw [List.all_map]
      rw [sames_zip he] at hq
      exact hq
  cases d with
  | tup ys =>
    obtain ⟨hly, gy⟩ := gd_tup gd
    cases v with
    | tup xs =>
      obtain ⟨hlx, gx⟩ := gd_tup gv
      simp [isTy, hb]
      by_cases he : xs.length = ys.length
      · simp [he]
        refine seqs xs ys (by simpa [D.depth] using hd) gx gy hlx he (e := []) ?_
        simpa [D.same] using q
      · have he2 : ¬ (xs.length : Int) = ys.length := by omega
        simp [he2]
        simpa [D.same, sames_len he] using q
    | _ => first | (cases gv; done) | (simp [isTy, hb]; simpa [D.same] using q)
  | lst ys =>
    have gy := gd_lst gd
    cases v with
    | lst xs =>
      have gx := gd_lst gv
      simp [isTy, hb]
      by_cases he : xs.length = ys.length
      · simp [he]
        refine seqs xs ys (by simpa [D.depth] using hd) gx.2 gy.2 gx.1 he (e := []) ?_
        simpa [D.same] using q
      · have he2 : ¬ (xs.length : Int) = ys.length := by omega
        simp [he2]
        simpa [D.same, sames_len he] using q
    | _ => first | (cases gv; done) | (simp [isTy, hb]; simpa [D.same] using q)
  | non =>
    have e : D.same v .non = (match v with | .non => true | _ => false) := by cases v <;> rfl
    rw [e] at q
    simp [isTy, is_non]
    exact q
  | bl b =>
    have e : D.same v (.bl b) = (match v with | .bl c => c == b | _ => false) := by cases v <;> rfl
    rw [e] at q
    cases b <;> simp [isTy, is_non, is_bl] <;> simpa using q
  | int i =>
    have e : ∀ j : Int, (decide (j = i)) = (j == i) := fun j => by rw [Bool.eq_iff_iff]; simp
    simp [isTy, is_non, is_bl, isTy_plain (gd_plain v gv)]
    cases v with
    | int j => simpa [tyB, D.same, e] using q
    | bl b => simpa [tyB, D.same] using q
    | _ => first | (cases gv; done) | simpa [tyB, D.same] using q
  | str s =>
    simp [isTy, is_non, is_bl, isTy_plain (gd_plain v gv)]
    cases v with
    | str j => simpa [tyB, D.same] using q
    | _ => first | (cases gv; done) | simpa [tyB, D.same] using q
  | _ => cases gd
theorem c_law_looked [C_law_looked tb] (hk : 9 ≤ k) (hm : 1000 ≤ m) {d : D} (h : d.gd = true) (q : Q (.bl true) w) : wp (run tb m k F_law_looked [d] w) Z Q := by
  refine wp_enter C_law_looked.own rfl hk fun k hk => ?_
  unfold b_law_looked
  have hb : 2 ≤ big := by decide
  simp
  refine c_is_expression (by omega) hm h ?_
  refine c_is_test (by omega) hm h ?_
  simp [hb]
  refine c_law_is_part (by omega) h ?_
  refine c_law_is_part (by omega) h ?_
  refine c_law_same 1 (by omega) (by simp [D.depth, D.depths]) rfl rfl ?_
  simpa [D.same, D.sames] using q
end LL
/-! == P01q == -/
set_option Elab.async false
set_option linter.all false
set_option maxRecDepth 1000000
set_option maxHeartbeats 1000000
namespace LL
open PySem
variable {tb : List (Nat × Rn)} {m k n : Nat} {w0 w : W} {Z : Zp} {Q : D → W → Prop}
/-- how far a draw of a part goes -/
theorem sp_all [C_law_some_part tb] {hs : List (Str × Nat)} (hhs : hs.length ≤ 1000) (hha : ∀ h ∈ hs, h.2 ≤ 1000) : ∀ (N k : Nat), N + 5 ≤ k →
    (∀ (ns : List Str) (deep : Int), 2 * deep.toNat ≤ N → ns.length + N ≤ 1000 → SpOk tb m k n w0 hs "e" ns deep) ∧ (∀ (ns : List Str) (deep : Int), 2 * deep.toNat + 1 ≤ N → ns.length + N ≤ 1000 → SpOk tb m k n w0 hs "t" ns deep) := by
  intro N
  induction N with
  | zero =>
    intro k hk
    obtain ⟨k, rfl⟩ : ∃ k', k = k' + 1 := ⟨k - 1, by omega⟩
    refine ⟨fun ns deep h hn => ?_, fun ns deep h hn => by omega⟩
    exact sp_expr (by omega) hhs hha (by omega) (fun h => by omega) (fun h => by omega) (fun h => by omega) (fun h => by omega)
  | succ N ih =>
    intro k hk
    obtain ⟨k, rfl⟩ : ∃ k', k = k' + 1 := ⟨k - 1, by omega⟩
    obtain ⟨i1, i2⟩ := ih k (by omega)
    refine ⟨fun ns deep h hn => ?_, fun ns deep h hn => ?_⟩
    · refine sp_expr (by omega) hhs hha (by omega) (fun h => ?_) (fun h => ?_) (fun h => ?_) (fun h x => ?_)
      · exact i1 _ _ (by omega) (by omega)
      · exact i2 _ _ (by omega) (by omega)
      · exact i1 _ _ (by omega) (by omega)
      · have lf : (ns.filter fun y => !decide (y = x)).length ≤ ns.length := List.length_filter_le _ _
        have l2 : (ns.filter (fun y => !decide (y = x)) ++ [x]).length + N ≤ 1000 := by simp; omega
        have l3 : 2 * (deep - 2).toNat ≤ N := by omega
        exact (@i1 _ _ l3 l2)
    · refine sp_test (by omega) ?_ (fun h => ?_) ?_
      · exact i1 _ _ (by omega) (by omega)
      · exact i2 _ _ (by omega) (by omega)
      · exact i1 _ _ (by omega) (by omega)
theorem c_law_some_part [C_law_some_part tb] {hs : List (Str × Nat)} (hhs : hs.length ≤ 1000) (hha : ∀ h ∈ hs, h.2 ≤ 1000) {ns : List Str} {deep : Int} {kind : Str} (hd : deep ≤ 10) (hn : ns.length ≤ 900) (hkd : kind = "e" ∨ kind = "t") (hk : 30 ≤ k) : SpOk tb m k n w0 hs kind ns deep := by
  obtain ⟨i1, i2⟩ := sp_all (tb := tb) (m := m) (n := n) (w0 := w0) hhs hha 25 k (by omega)
  rcases hkd with rfl | rfl
  · exact i1 _ _ (by omega) (by omega)
  · exact i2 _ _ (by omega) (by omega)
mutual
/-- plain, no list and no text longer than n -/
def D.gn (n : Nat) : D → Bool
  | .non | .bl _ | .int _ => true
  | .str s => decide (s.length ≤ n)
  | .tup xs | .lst xs => decide (xs.length ≤ n) && D.gns n xs
  | _ => false
def D.gns (n : Nat) : List D → Bool
  | [] => true
  | x :: xs => D.gn n x && D.gns n xs
end
theorem gns_iff {n : Nat} {ds : List D} : D.gns n ds = true ↔ ∀ d ∈ ds, d.gn n = true := by
  induction ds with
  | nil => simp [D.gns]
  | cons d ds ih => simp [D.gns, ih]
mutual
theorem gn_mono {n n' : Nat} (hn : n ≤ n') : ∀ d : D, d.gn n = true → d.gn n' = true
  | .non, _ => rfl
  | .bl _, _ => rfl
  | .int _, _ => rfl
  | .str s, h => by simp only [D.gn, decide_eq_true_eq] at h ⊢; omega
  | .tup xs, h => by
    simp only [D.gn, Bool.and_eq_true, decide_eq_true_eq] at h ⊢
    exact ⟨by omega, gns_mono hn xs h.2⟩
  | .lst xs, h => by
    simp only [D.gn, Bool.and_eq_true, decide_eq_true_eq] at h ⊢
    exact ⟨by omega, gns_mono hn xs h.2⟩
  | .dct _ _, h => by cases h
  | .ob _, h => by cases h
  | .scr _, h => by cases h
theorem gns_mono {n n' : Nat} (hn : n ≤ n') : ∀ ds : List D, D.gns n ds = true → D.gns n' ds = true
  | [], _ => rfl
  | d :: ds, h => by
    rw [D.gns, Bool.and_eq_true] at h ⊢
    exact ⟨gn_mono hn d h.1, gns_mono hn ds h.2⟩
end
mutual
theorem gn_gd {n : Nat} (hn : n ≤ lim) : ∀ d : D, d.gn n = true → d.gd = true
  | .non, _ => rfl
  | .bl _, _ => rfl
  | .int _, _ => rfl
  | .str s, h => by simp only [D.gn, D.gd, decide_eq_true_eq] at h ⊢; omega
  | .tup xs, h => by
    simp only [D.gn, D.gd, Bool.and_eq_true, decide_eq_true_eq] at h ⊢
    exact ⟨by omega, gns_gds hn xs h.2⟩
  | .lst xs, h => by
    simp only [D.gn, D.gd, Bool.and_eq_true, decide_eq_true_eq] at h ⊢
    exact ⟨by omega, gns_gds hn xs h.2⟩
  | .dct _ _, h => by cases h
  | .ob _, h => by cases h
  | .scr _, h => by cases h
theorem gns_gds {n : Nat} (hn : n ≤ lim) : ∀ ds : List D, D.gns n ds = true → D.gds ds = true
  | [], _ => rfl
  | d :: ds, h => by
    rw [D.gns, Bool.and_eq_true] at h
    rw [D.gds, gn_gd hn d h.1, gns_gds hn ds h.2]; rfl
end
theorem gnt {n : Nat} {ds : List D} (hl : ds.length ≤ n) (h : ∀ d ∈ ds, d.gn n = true) : (D.tup ds).gn n = true := by rw [D.gn, Bool.and_eq_true]; exact ⟨decide_eq_true hl, gns_iff.mpr h⟩
theorem gnl {n : Nat} {ds : List D} (hl : ds.length ≤ n) (h : ∀ d ∈ ds, d.gn n = true) : (D.lst ds).gn n = true := by rw [D.gn, Bool.and_eq_true]; exact ⟨decide_eq_true hl, gns_iff.mpr h⟩
theorem gn_tup {n : Nat} {ds : List D} (h : (D.tup ds).gn n = true) : ds.length ≤ n ∧ ∀ d ∈ ds, d.gn n = true := by
  rw [D.gn, Bool.and_eq_true] at h; exact ⟨of_decide_eq_true h.1, gns_iff.mp h.2⟩
theorem gn_lst {n : Nat} {ds : List D} (h : (D.lst ds).gn n = true) : ds.length ≤ n ∧ ∀ d ∈ ds, d.gn n = true := by
  rw [D.gn, Bool.and_eq_true] at h; exact ⟨of_decide_eq_true h.1, gns_iff.mp h.2⟩
theorem str_gn {n : Nat} {s : Str} (h : s.length ≤ n) : (D.str s).gn n = true := decide_eq_true h
theorem somes_gn {many : Int} {d : D} (h : SomeSet many d) : d.gn 40 = true := by
  cases h <;> first | decide +kernel | (simp [D.gn, D.gns]; decide +kernel)
/-- drawn parts are good data -/
theorem Pt.gn {n : Nat} (hn : 40 ≤ n) {hs : List (Str × Nat)} (hf : ∀ h ∈ hs, h.1.length ≤ n ∧ h.2 ≤ n) {kind : Str} {ns : List Str} {deep : Int} {d : D} (hns : ∀ x ∈ ns, x.length ≤ n) (h : Pt hs kind ns deep d) : d.gn n = true := by
  have l5 : ∀ ds : List D, ds.length ≤ 5 → ds.length ≤ n := fun ds h => by omega
  have ks : ∀ x ∈ (["x", "y", "v0", "z", "far", "odd", "f", "abcdefghijkl", "abcdefghijkm", "num", "name", "add", "sub", "mul", "div", "rest", "if", "fail", "call", "let", "times", "less", "same", "not", "both", "either", "in"] : List Str), (D.str x).gn 40 = true := by decide +kernel
  have ks : ∀ x ∈ (["x", "y", "v0", "z", "far", "odd", "f", "abcdefghijkl", "abcdefghijkm", "num", "name", "add", "sub", "mul", "div", "rest", "if", "fail", "call", "let", "times", "less", "same", "not", "both", "either", "in"] : List Str), (D.str x).gn n = true := fun x hx => gn_mono hn _ (ks x hx)
  have hnx : ∀ {ns : List Str} {x : Str}, (∀ x ∈ ns, x.length ≤ n) → x ∈ (["x", "y", "v0", "z"] : List Str) ++ ns → x.length ≤ n := by
    intro ns x hns hx
    rcases List.mem_append.mp hx with hx | hx
    · have : ∀ x ∈ (["x", "y", "v0", "z"] : List Str), x.length ≤ 40 := by decide +kernel
      exact Nat.le_trans (this x hx) hn
    · exact hns x hx
  have hfl : ∀ {ns : List Str} {x : Str}, (∀ x ∈ ns, x.length ≤ n) → x ∈ (["x", "y", "v0", "z"] : List Str) ++ ns → ∀ y ∈ ns.filter (fun y => !decide (y = x)) ++ [x], y.length ≤ n := by
    intro ns x hns hx y hy
    rcases List.mem_append.mp hy with hy | hy
    · exact hns y (List.mem_filter.mp hy).1
    · rw [List.mem_singleton.mp hy]; exact hnx hns hx
  induction h with
  | num ns deep i h => exact gnt (l5 _ (by simp)) (by simp [ks]; rfl)
  | name ns deep x h => exact gnt (l5 _ (by simp)) (by simp [ks]; exact str_gn (hns x h))
  | fail ns deep x h hx =>
    have : ∀ x ∈ (["far", "odd", "f", "x", "abcdefghijkl", "abcdefghijkm"] : List Str), x.length ≤ 40 := by decide +kernel
    exact gnt (l5 _ (by simp)) (by simp [ks]; exact str_gn (Nat.le_trans (this x hx) hn))
  | call ns deep f many as h hf2 hl ha ih =>
    have := hf _ hf2
    exact gnt (l5 _ (by simp)) (by simp [ks]; exact ⟨str_gn this.1, gnt (by omega) fun a h => ih a h hns⟩)
  | let_ ns deep x a b h hx ha hb iha ihb => exact gnt (l5 _ (by simp)) (by simp [ks]; exact ⟨str_gn (hnx hns hx), iha hns, ihb (hfl hns hx)⟩)
  | times ns deep i x a b h hi hx ha hb iha ihb => exact gnt (l5 _ (by simp)) (by simp [ks]; exact ⟨rfl, str_gn (hnx hns hx), iha hns, ihb (hfl hns hx)⟩)
  | in_ ns deep many s as hs' hl ha ih => 
    have hm : many ≤ 2 := by generalize hmm : (many : Int) = mm at hs'; cases hs' <;> omega
    exact gnt (l5 _ (by simp)) (by simp [ks]; exact ⟨gn_mono hn _ (somes_gn hs'), gnt (l5 _ (by omega)) fun a h => ih a h hns⟩)
  | add _ _ a b h ha hb iha ihb => exact gnt (l5 _ (by simp)) (by simp [ks]; exact ⟨iha hns, ihb hns⟩)
  | sub _ _ a b h ha hb iha ihb => exact gnt (l5 _ (by simp)) (by simp [ks]; exact ⟨iha hns, ihb hns⟩)
  | mul _ _ i a h hi ha iha => exact gnt (l5 _ (by simp)) (by simp [ks]; exact ⟨rfl, iha hns⟩)
  | div _ _ a i h hi ha iha => exact gnt (l5 _ (by simp)) (by simp [ks]; exact ⟨iha hns, rfl⟩)
  | rest _ _ a i h hi ha iha => exact gnt (l5 _ (by simp)) (by simp [ks]; exact ⟨iha hns, rfl⟩)
  | ite _ _ c a b h hc ha hb ihc iha ihb => exact gnt (l5 _ (by simp)) (by simp [ks]; exact ⟨ihc hns, iha hns, ihb hns⟩)
  | less _ _ a b ha hb iha ihb => exact gnt (l5 _ (by simp)) (by simp [ks]; exact ⟨iha hns, ihb hns⟩)
  | same _ _ a b ha hb iha ihb => exact gnt (l5 _ (by simp)) (by simp [ks]; exact ⟨iha hns, ihb hns⟩)
  | not _ _ a h ha iha => exact gnt (l5 _ (by simp)) (by simp [ks]; exact iha hns)
  | both _ _ a b h ha hb iha ihb => exact gnt (l5 _ (by simp)) (by simp [ks]; exact ⟨iha hns, ihb hns⟩)
  | either _ _ a b h ha hb iha ihb => exact gnt (l5 _ (by simp)) (by simp [ks]; exact ⟨iha hns, ihb hns⟩)
/-- how deep drawn parts are -/
theorem somes_depth {many : Int} {d : D} (h : SomeSet many d) : d.depth ≤ 3 := by
  cases h <;> simp [D.depth, D.depths]
theorem Pt.depth_le {hs : List (Str × Nat)} {kind : Str} {ns : List Str} {deep : Int} {d : D} (h : Pt hs kind ns deep d) : (kind = "e" → d.depth ≤ 3 * deep.toNat + 2) ∧ d.depth ≤ 3 * deep.toNat + 4 := by
  have ne : ¬ Str.ofString "t" = Str.ofString "e" := by decide +kernel
  induction h with
  | call ns deep f many as h hf2 hl ha ih =>
    have : D.depths as ≤ 3 * (deep - 2).toNat + 2 := depths_le.mpr fun a h => (ih a h).1 rfl
    simp [D.depth, D.depths]; omega
  | in_ ns deep many s as hs' hl ha ih =>
    have : D.depths as ≤ 3 * (min (deep - 1) 1).toNat + 2 := depths_le.mpr fun a h => (ih a h).1 rfl
    have := somes_depth hs'
    simp [D.depth, D.depths, ne]; omega
  | _ => simp [D.depth, D.depths, ne] at * <;> omega
end LL
/-! == P01r == -/
set_option Elab.async false
set_option linter.all false
set_option maxRecDepth 1000000
set_option maxHeartbeats 1000000
namespace LL
open PySem
variable {tb : List (Nat × Rn)} {m k n : Nat} {w0 w : W} {Z : Zp} {Q : D → W → Prop}
theorem sIx_nat {n dflt j : Nat} (h : j ≤ n) : HT.sIx n dflt (some (j : Int)) = j := by
  simp only [HT.sIx]
  split
  · omega
  · simp; omega
theorem sIx_none {n dflt : Nat} : HT.sIx n dflt none = dflt := rfl
theorem cut_to {xs : List D} {j : Nat} (h : j ≤ xs.length) : cutD xs none (some (j : Int)) = xs.take j := by
  simp [cutD, sIx_nat h, sIx_none]
theorem cut_from {xs : List D} {j : Nat} (h : j ≤ xs.length) : cutD xs (some (j : Int)) none = xs.drop j := by
  simp only [cutD, sIx_nat h, sIx_none]
  exact List.take_of_length_le (by simp)
@[simp] theorem sl_t {xs : List D} {a b : Option Int} : slD (.tup xs) a b = some (.tup (cutD xs a b)) := rfl
@[simp] theorem sl_l {xs : List D} {a b : Option Int} : slD (.lst xs) a b = some (.lst (cutD xs a b)) := rfl
theorem c_law_near_value [C_law_near_value tb] : ∀ (N : Nat) {k : Nat} (hk : N + 3 ≤ k) {v : D} (hv : v.depth ≤ N) (gv : v.gn 2000 = true) {w : W} {Z : Zp} {Q : D → W → Prop}, Dw n w0 w → (∀ d w', d.gn 2001 = true → Dw n w0 w' → Q d w') → wp (run tb m k F_law_near_value [.ob n, v] w) Z Q := by
  intro N
  induction N using Nat.strongRecOn with
  | ind N ih =>
  intro k hk v hv gv w Z Q hw q
  have hb : (2100 : Nat) ≤ big := by decide
  have gd := gn_gd (n := 2000) (by decide) v gv
  refine wp_enter C_law_near_value.own rfl hk fun k hk => ?_
  unfold b_law_near_value
  refine x_step (I := fun s w' => w' = w ∧ ∃ xs : List D, xs.length = 15 ∧ (∀ x ∈ xs, x.gn 40 = true) ∧ s = [.val (.ob n), .val v, .val (.lst xs), .no]) ?_ ?_
  · simp (config := {maxSteps := 1000000}) [big]
    decide +kernel
  rintro s w1 ⟨rfl, xs, xl, hx, rfl⟩
  refine x_step (I := fun s w' => w' = w1 ∧ ∃ xs : List D, xs.length = 22 ∧ (∀ x ∈ xs, x.gn 40 = true) ∧ s = [.val (.ob n), .val v, .val (.lst xs), .no]) ?_ ?_
  · simp (config := {maxSteps := 1000000}) [big, xl]
    rintro x (h | h | h | h | h | h | h | h)
    · exact hx x h
    all_goals (subst h; decide +kernel)
  rintro s w1 ⟨rfl, xs, xl, hx, rfl⟩
  have hx2 : ∀ x ∈ xs, x.gn 2001 = true := fun x h => gn_mono (by omega) x (hx x h)
  have go : ∀ {w Q} (a b : D), Dw n w0 w → a.gn 2001 = true → b.gn 2001 = true → (∀ d w', d.gn 2001 = true → Dw n w0 w' → Q d w') → wp (run tb m k F_law_of [.ob n, .lst (xs ++ [a, b])] w) Z Q := by
    intro w Q a b hw ha hb q
    refine c_law_of (by omega) hw (by simp) (by simp [big]; omega) fun x hx w' hw' => q x w' ?_ hw'
    rcases List.mem_append.mp hx with h | h
    · exact hx2 x h
    · simp at h
      rcases h with rfl | rfl
      · exact ha
      · exact hb
  refine x_step (I := fun s w' => Dw n w0 w' ∧ (∃ vs : List D, v = .tup vs ∧ vs ≠ []) ∧ s = [.val (.ob n), .val v, .val (.lst xs), .no]) ?_ ?_
  · cases v with
    | tup vs =>
      obtain ⟨vl, hv2⟩ := gn_tup gv
      have hp : D.plains vs = true := gds_plains _ (gds_iff.mpr fun d hd => gn_gd (n := 2000) (by decide) d (hv2 d hd))
      simp [isTy, eq_nilT hp]
      have fin : ∀ {w' : W}, Dw n w0 w' → wp (run tb m k F_law_of [.ob n, .lst (xs ++ [.tup (vs ++ [.int 0]), .lst vs])] w') Z Q := fun hw' =>
        go _ _ hw' (gnt (by simp; omega) fun d hd => by
          rcases List.mem_append.mp hd with h | h
          · exact gn_mono (by omega) d (hv2 d h)
          · rw [List.mem_singleton.mp h]; rfl) (gnl (by omega) fun d hd => gn_mono (by omega) d (hv2 d hd)) q
      cases vs with
      | nil =>
        simp [big, xl]
        simpa using fin hw
      | cons v0 vs =>
        simp
        refine c_law_any (by omega) hw (by omega) (by omega) fun j w2 hj hw2 => ?_
        simp
        by_cases hj0 : j = 0
        · simp at vl
          simp [hj0, big, xl, show vs.length + 1 + 1 ≤ 16777216 by omega]
          simpa using fin hw2
        · simp [hj0]; exact hw2
    | _ =>
      first
        | (cases gv; done)
        | (simp [isTy, big, xl]
           exact go _ _ hw (gn_mono (by omega) _ gv) (gn_mono (by omega) _ gv) q)
  rintro s w2 ⟨hw2, ⟨vs, rfl, hne⟩, rfl⟩
  obtain ⟨vl, hv2⟩ := gn_tup gv
  have hpos : 0 < vs.length := List.length_pos_iff.mpr hne
  simp
  refine c_law_any (by omega) hw2 (by omega) (by omega) fun j w3 hj hw3 => ?_
  have hj : j < vs.length := by omega
  simp [cut_to (Nat.le_of_lt hj), ix_natt hj]
  have hdj : (vs[j]).depth ≤ D.depths vs := depths_le.mp (Nat.le_refl _) _ (List.getElem_mem hj)
  simp [D.depth] at hv
  refine ih (N - 1) (by omega) (by omega) (by omega) (hv2 _ (List.getElem_mem hj)) hw3 fun d w4 hd hw4 => ?_
  have e1 : cutD vs (some ((j : Int) + 1)) none = vs.drop (j + 1) := by
    have := cut_from (xs := vs) (j := j + 1) (by omega)
    rw [← this]; rfl
  simp [big, e1]
  refine ⟨fun _ => ⟨fun _ => q _ _ (gnt (by simp; omega) fun x hx => ?_) hw4, by omega⟩, by omega⟩
  simp at hx
  rcases hx with h | rfl | h
  · exact gn_mono (by omega) x (hv2 x (List.mem_of_mem_take h))
  · exact hd
  · exact gn_mono (by omega) x (hv2 x (List.mem_of_mem_drop h))
end LL
/-! == P01s == -/
set_option Elab.async false
set_option linter.all false
set_option maxRecDepth 1000000
set_option maxHeartbeats 1000000
namespace LL
open PySem
variable {tb : List (Nat × Rn)} {m k n : Nat} {w0 w : W} {Z : Zp} {Q : D → W → Prop}
theorem gn_rep {n k : Nat} {d : D} (h : d.gn n = true) : ∀ x ∈ (List.replicate k [d]).flatten, x.gn n = true := by
  intro x hx
  simp at hx
  rw [hx.2]; exact h
theorem c_law_wide [C_law_wide tb] (hk : 3 ≤ k) (hw : Dw n w0 w) {many : Nat} (hm : 1 ≤ many ∧ many ≤ 1000) {dp : D} (q : ∀ d w', d.gn 40 = true → Dw n w0 w' → Q d w') : wp (run tb m k F_law_wide [.ob n, .int many, dp] w) Z Q := by
  refine wp_enter C_law_wide.own rfl hk fun k hk => ?_
  unfold b_law_wide
  have e0 : Int.fdiv ((many : Int) + 1) 2 = (((many + 1) / 2 : Nat) : Int) := by
    rw [Int.fdiv_eq_ediv_of_nonneg _ (by omega)]; omega
  have nx : (D.tup [.str "name", .str "x"]).gn 40 = true := by decide +kernel
  refine x_step (I := fun s w' => w' = w ∧ ∃ xs : List D, xs ≠ [] ∧ xs.length ≤ 600 ∧ (∀ x ∈ xs, x.gn 40 = true) ∧ s = [.val (.ob n), .val (.int many), .val dp, .val (.lst xs), .no]) ?_ ?_
  · simp [big, opD, e0]
    refine ⟨fun _ _ _ => ⟨_, ?_, ?_, ?_, rfl⟩, by omega, by omega, by omega⟩
    · simp; omega
    · simp; omega
    · intro x hx; rw [(List.mem_replicate.mp hx).2]; exact nx
  rintro s w1 ⟨rfl, xs, x0, xl, hx, rfl⟩
  refine x_step (I := fun s w' => Dw n w0 w' ∧ ∃ a, ∃ xs : List D, xs ≠ [] ∧ xs.length ≤ 600 ∧ (∀ x ∈ xs, x.gn 40 = true) ∧ s = [.val (.ob n), .val (.int many), .val dp, .val (.lst xs), a]) ?_ ?_
  · rw [x_forR]
    simp [okI_1000, okI_0, np_nop]
    refine ⟨by decide, ?_⟩
    refine for_inv (I := fun i s w' => Dw n w0 w' ∧ ∃ a, ∃ xs : List D, xs ≠ [] ∧ xs.length ≤ 600 ∧ (∀ x ∈ xs, x.gn 40 = true) ∧ s = [.val (.ob n), .val (.int many), .val dp, .val (.lst xs), a]) ⟨hw, _, xs, x0, xl, hx, rfl⟩ ?_ (fun s w h => by simpa using h)
    rintro i d hd s w2 ⟨hw2, a, xs, x0, xl, hx, rfl⟩
    unfold forRB
    match xs, x0, xl, hx with
    | [x], _, xl, hx =>
      simp [big]
      exact ⟨hw2, _, [x], by simp, by simp, by simpa using hx, rfl, rfl⟩
    | x :: y :: r, _, xl, hx =>
      have hp : (1 : Int) < (r.length : Int) + 1 + 1 := by omega
      have e2 : cutD (x :: y :: r) (some 2) none = r := by
        have := cut_from (xs := x :: y :: r) (j := 2) (by simp)
        simpa using this
      simp [big, hp, e2]
      refine c_law_of (by omega) hw2 (by simp) (by simp [big]) fun z hz w3 hw3 => ?_
      simp at xl
      refine ⟨fun _ => ⟨hw3, _, _, by simp, by simp; omega, ?_, rfl, rfl⟩, by omega⟩
      intro c hc
      rcases List.mem_append.mp hc with h | h
      · exact hx c (by simp [h])
      · rw [List.mem_singleton.mp h]
        simp at hz
        refine gnt (by simp) ?_
        have g1 := hx x (by simp)
        have g2 := hx y (by simp)
        rcases hz with rfl | rfl <;> simp [g1, g2] <;> decide +kernel
  rintro s w2 ⟨hw2, a, xs, x0, xl, hx, rfl⟩
  cases xs with
  | nil => exact absurd rfl x0
  | cons x r =>
    simp
    exact q _ _ (hx x (by simp)) hw2
theorem cut_sub {xs : List D} {a b : Option Int} : ∀ x ∈ cutD xs a b, x ∈ xs := fun x h => List.mem_of_mem_drop (List.mem_of_mem_take h)
theorem cut_len {xs : List D} {a b : Option Int} : (cutD xs a b).length ≤ xs.length := by
  simp only [cutD, List.length_take, List.length_drop]; omega
theorem ix_last {xs : List D} (h : xs ≠ []) : ixD (.tup xs) (.int (-1)) = some (xs.getLast h) := by
  have hp : 0 < xs.length := List.length_pos_iff.mpr h
  show L2.atI xs (-1) = _
  unfold L2.atI L2.ixN
  rw [if_neg (by omega), if_pos (by omega)]
  show xs[((-1 : Int) + xs.length).toNat]? = _
  rw [show ((-1 : Int) + xs.length).toNat = xs.length - 1 by omega, List.getLast_eq_getElem, List.getElem?_eq_getElem (by omega)]
theorem ct1 {a : D} {r : List D} : cutD (a :: r) none (some 1) = [a] := by have := cut_to (xs := a :: r) (j := 1) (by simp); simpa using this
theorem ct2 {a b : D} {r : List D} : cutD (a :: b :: r) none (some 2) = [a, b] := by have := cut_to (xs := a :: b :: r) (j := 2) (by simp); simpa using this
theorem ct3 {a b c : D} {r : List D} : cutD (a :: b :: c :: r) none (some 3) = [a, b, c] := by have := cut_to (xs := a :: b :: c :: r) (j := 3) (by simp); simpa using this
theorem cf1 {a : D} {r : List D} : cutD (a :: r) (some 1) none = r := by have := cut_from (xs := a :: r) (j := 1) (by simp); simpa using this
theorem cf2 {a b : D} {r : List D} : cutD (a :: b :: r) (some 2) none = r := by have := cut_from (xs := a :: b :: r) (j := 2) (by simp); simpa using this
theorem cf3 {a b c : D} {r : List D} : cutD (a :: b :: c :: r) (some 3) none = r := by have := cut_from (xs := a :: b :: c :: r) (j := 3) (by simp); simpa using this
theorem gns_append {n : Nat} {a b : List D} : D.gns n (a ++ b) = (D.gns n a && D.gns n b) := by
  induction a with
  | nil => rfl
  | cons x a ih => simp [D.gns, ih, Bool.and_assoc]
theorem gns_cut {n : Nat} {xs : List D} {a b : Option Int} (h : D.gns n xs = true) : D.gns n (cutD xs a b) = true := gns_iff.mpr fun x hx => gns_iff.mp h x (cut_sub x hx)
theorem gns_rep {n k : Nat} {d : D} (h : d.gn n = true) : D.gns n (List.replicate k d) = true := gns_iff.mpr fun x hx => by rw [(List.mem_replicate.mp hx).2]; exact h
theorem gn2 {d : D} (h : d.gn 40 = true) : d.gn 2000 = true := gn_mono (by omega) d h
theorem c_law_near_form [C_law_near_form tb] (hk : 4 ≤ k) (hw : Dw n w0 w) (q : ∀ d w', d.gn 2000 = true → Dw n w0 w' → Q d w') : wp (run tb m k F_law_near_form [.ob n] w) Z Q := by
  refine wp_enter C_law_near_form.own rfl hk fun k hk => ?_
  unfold b_law_near_form
  refine x_step (I := fun s w' => Dw n w0 w' ∧ ∃ many kk : Nat, 1 ≤ many ∧ many ≤ 1001 ∧ kk ≤ 5 ∧ s = [.val (.ob n), .val (.int many), .val (.int kk), .no, .no, .no, .no, .no]) ?_ ?_
  · simp [big]
    refine c_law_of (by omega) hw (by simp) (by simp [big]) fun x hx w1 hw1 => ?_
    have hx2 : ∃ i : Nat, x = .int i ∧ 1 ≤ i ∧ i ≤ 1001 := by
      simp at hx
      rcases hx with h | h | h | h | h | h | h
      · exact ⟨1, by simp [h], by omega⟩
      · exact ⟨2, by simp [h], by omega⟩
      · exact ⟨3, by simp [h], by omega⟩
      · exact ⟨5, by simp [h], by omega⟩
      · exact ⟨999, by simp [h], by omega⟩
      · exact ⟨1000, by simp [h], by omega⟩
      · exact ⟨1001, by simp [h], by omega⟩
    obtain ⟨many, rfl, hm⟩ := hx2
    refine c_law_of (by omega) hw1 (by simp) (by simp [big]) fun x hx w2 hw2 => ?_
    have hx2 : ∃ i : Nat, x = .int i ∧ i ≤ 5 := by
      simp at hx
      rcases hx with h | h | h | h | h | h
      · exact ⟨0, by simp [h], by omega⟩
      · exact ⟨1, by simp [h], by omega⟩
      · exact ⟨2, by simp [h], by omega⟩
      · exact ⟨3, by simp [h], by omega⟩
      · exact ⟨4, by simp [h], by omega⟩
      · exact ⟨5, by simp [h], by omega⟩
    obtain ⟨kk, rfl, hkk⟩ := hx2
    exact ⟨hw2, many, hm.1, hm.2, kk, hkk, rfl, rfl⟩
  rintro s w1 ⟨hw1, many, kk, hm1, hm2, hkk, rfl⟩
  refine x_step (I := fun s w' => Dw n w0 w' ∧ ∃ wd : Nat, wd ≤ 32 ∧ 1 ≤ wd ∧ s = [.val (.ob n), .val (.int many), .val (.int kk), .val (.int wd), .no, .no, .no, .no]) ?_ ?_
  · have hj : kk < [D.int 1, .int 2, .int 4, .int 8, .int 16, .int 32].length := by simp; omega
    simp [big, ix_nat hj]
    have : kk = 0 ∨ kk = 1 ∨ kk = 2 ∨ kk = 3 ∨ kk = 4 ∨ kk = 5 := by omega
    rcases this with rfl | rfl | rfl | rfl | rfl | rfl
    · exact ⟨hw1, 1, by omega, by omega, by simp⟩
    · exact ⟨hw1, 2, by omega, by omega, by simp⟩
    · exact ⟨hw1, 4, by omega, by omega, by simp⟩
    · exact ⟨hw1, 8, by omega, by omega, by simp⟩
    · exact ⟨hw1, 16, by omega, by omega, by simp⟩
    · exact ⟨hw1, 32, by omega, by omega, by simp⟩
  rintro s w2 ⟨hw2, wd, hwd, hwd1, rfl⟩
  refine x_step (I := fun s w' => Dw n w0 w' ∧ ∃ ms rs : List D, ms.length = many ∧ rs.length = many ∧ (∀ x ∈ ms, x.gn 40 = true) ∧ (∀ x ∈ rs, ∃ r, x = .tup r ∧ r.length ≤ 40 ∧ ∀ y ∈ r, y.gn 40 = true) ∧ s = [.val (.ob n), .val (.int many), .val (.int kk), .val (.int wd), .val (.tup [.str "set", .int kk, .tup ms, .tup rs]), .no, .no, .no]) ?_ ?_
  · simp [okI_nat (j := many) (by omega)]
    refine comp_draw (P := fun x => x.gn 40 = true) hw2 (fun d hd w hw => ?_) fun ms w3 hw3 hl hms => ?_
    · simp
      refine c_law_any (by omega) hw (by omega) (by omega) fun j w' hj hw' => ?_
      exact ⟨hw', rfl⟩
    · rw [rng_len] at hl
      refine ⟨by simp [big]; omega, ?_⟩
      refine comp_draw (P := fun x => ∃ r, x = .tup r ∧ r.length ≤ 40 ∧ ∀ y ∈ r, y.gn 40 = true) hw3 (fun d hd w hw => ?_) fun rs w4 hw4 hl2 hrs => ?_
      · obtain ⟨i, hi, rfl⟩ := rng_mem hd
        simp [okI_nat (j := wd) (by omega)]
        refine comp_draw (P := fun x => x.gn 40 = true) hw (fun d hd w hw => ?_) fun xs w5 hw5 hl3 hxs => ?_
        · obtain ⟨j, hj, rfl⟩ := rng_mem hd
          have : ¬ (many : Int) = 0 := by omega
          have h3 : -18446744073709551616 < (i : Int) ∧ (i : Int) < 18446744073709551616 := by omega
          simp [opD, this, h3]
          exact ⟨by omega, fun _ => ⟨hw, rfl⟩⟩
        · rw [rng_len] at hl3
          exact ⟨by simp [big]; omega, hw5, by omega, hxs⟩
      · rw [rng_len] at hl2
        simp [big]
        exact ⟨by omega, hw4, ms, hl, rs, hl2, hms, hrs, rfl, rfl⟩
  rintro s w3 ⟨hw3, ms, rs, hml, hrl, hms, hrs, rfl⟩
  have gms : D.gns 2000 ms = true := gns_iff.mpr fun x hx => gn2 (hms x hx)
  have grs : D.gns 2000 rs = true := gns_iff.mpr fun x hx => by
    obtain ⟨r, rfl, hl, hr⟩ := hrs x hx
    exact gnt (by omega) fun y hy => gn2 (hr y hy)
  have rne : rs ≠ [] := fun e => by rw [e] at hrl; simp at hrl; omega
  obtain ⟨r, hr, hrl2, hry⟩ := hrs _ (List.getLast_mem rne)
  have gr : D.gns 2000 r = true := gns_iff.mpr fun x hx => gn2 (hry x hx)
  have kset : (D.str "set").gn 2000 = true := by decide +kernel
  have ksets : (D.str "sets").gn 2000 = true := by decide +kernel
  have l1 : (cutD ms none (some (-1))).length ≤ 1001 := Nat.le_trans cut_len (by omega)
  have l2 : (cutD ms (some 1) none).length ≤ 1001 := Nat.le_trans cut_len (by omega)
  have l3 : (cutD rs none (some (-1))).length ≤ 1001 := Nat.le_trans cut_len (by omega)
  have l4 : (cutD r none (some (-1))).length ≤ 1001 := Nat.le_trans cut_len (by omega)
  have gF : (D.tup [D.str "set", D.int kk, D.tup ms, D.tup rs]).gn 2000 = true := by
    simp [D.gn, D.gns, gms, grs]
    refine ⟨by decide +kernel, by omega, by omega⟩
  refine x_step (I := fun s w' => Dw n w0 w' ∧ s = [.val (.ob n), .val (.int many), .val (.int kk), .val (.int wd), .val (.tup [.str "set", .int kk, .tup ms, .tup rs]), .no, .no, .no]) ?_ ?_
  · simp
    refine c_law_any (by omega) hw3 (by omega) (by omega) fun j w4 hj hw4 => ?_
    simp
    by_cases hj0 : j = 0
    · simp [hj0]; exact q _ _ gF hw4
    · simp [hj0]; exact hw4
  rintro s w4 ⟨hw4, rfl⟩
  refine x_step (I := fun s w' => w' = w4 ∧ ∃ xs : List D, xs.length = 6 ∧ (∀ x ∈ xs, x.gn 2000 = true) ∧ s = [.val (.ob n), .val (.int many), .val (.int kk), .val (.int wd), .val (.tup [.str "set", .int kk, .tup ms, .tup rs]), .no, .no, .val (.lst xs)]) ?_ ?_
  · simp [big, ct1, ct2, ct3, cf1, cf2, cf3]
    have ls : (Str.ofString "set").length = 3 := by decide +kernel
    have ls2 : (Str.ofString "sets").length = 4 := by decide +kernel
    simp [D.gn, D.gns, gns_append, gns_cut, gns_rep, gms, grs, gr, ls, ls2]
    omega
  rintro s w5 ⟨rfl, xs, xl, hx, rfl⟩
  have gi : ∀ i : Int, D.gns 2000 (List.replicate wd (D.int i)) = true := fun i => gns_rep rfl
  have m1 : 1 + (cutD ms (some 1) none).length ≤ 16777216 := by omega
  have m2 : (cutD rs none (some (-1))).length ≤ 16777215 := by omega
  have m3 : wd ≤ 16777216 := by omega
  have wz1 : (1 : Int) ≤ wd := by omega
  have wz2 : (wd : Int) ≤ 100000 := by omega
  refine x_step (I := fun s w' => w' = w5 ∧ ∃ xs : List D, xs.length = 8 ∧ (∀ x ∈ xs, x.gn 2000 = true) ∧ s = [.val (.ob n), .val (.int many), .val (.int kk), .val (.int wd), .val (.tup [.str "set", .int kk, .tup ms, .tup rs]), .no, .no, .val (.lst xs)]) ?_ ?_
  · simp [big, ct1, ct2, ct3, cf1, cf2, cf3, ix_last rne, hr, xl, opD, wz1, wz2, m1, m2, m3]
    rintro x (h | h)
    · exact hx x h
    · have ls : (Str.ofString "set").length = 3 := by decide +kernel
      rcases h with rfl | rfl <;> simp [D.gn, D.gns, gns_append, gns_cut, gi, gms, grs, gr, ls] <;> omega
  rintro s w6 ⟨rfl, xs, xl, hx, rfl⟩
  refine x_step (I := fun s w' => w' = w6 ∧ ∃ xs : List D, xs.length = 11 ∧ (∀ x ∈ xs, x.gn 2000 = true) ∧ s = [.val (.ob n), .val (.int many), .val (.int kk), .val (.int wd), .val (.tup [.str "set", .int kk, .tup ms, .tup rs]), .no, .no, .val (.lst xs)]) ?_ ?_
  · simp [big, ct1, ct2, ct3, cf1, cf2, cf3, ix_last rne, hr, xl, opD, wz1, wz2, m1, m2, m3]
    rintro x (h | h)
    · exact hx x h
    · have ls : (Str.ofString "set").length = 3 := by decide +kernel
      rcases h with rfl | rfl | rfl <;> simp [D.gn, D.gns, gns_append, gns_cut, gi, gms, grs, gr, ls] <;> omega
  rintro s w7 ⟨rfl, xs, xl, hx, rfl⟩
  refine x_step (I := fun s w' => w' = w7 ∧ ∃ xs : List D, xs.length = 15 ∧ (∀ x ∈ xs, x.gn 2000 = true) ∧ s = [.val (.ob n), .val (.int many), .val (.int kk), .val (.int wd), .val (.tup [.str "set", .int kk, .tup ms, .tup rs]), .no, .no, .val (.lst xs)]) ?_ ?_
  · simp [big, ct1, ct2, ct3, cf1, cf2, cf3, ix_last rne, hr, xl, opD, wz1, wz2, m1, m2, m3]
    rintro x (h | h)
    · exact hx x h
    · have ls : (Str.ofString "set").length = 3 := by decide +kernel
      rcases h with rfl | rfl | rfl | rfl <;> simp [D.gn, D.gns, gns_append, gns_cut, gi, gms, grs, gr, ls] <;> omega
  rintro s w8 ⟨rfl, xs, xl, hx, rfl⟩
  simp
  exact c_law_of (by omega) (by assumption) (by intro e; rw [e] at xl; simp at xl) (by simp [big]; omega) fun x h w' hw' => q x w' (hx x h) hw'
end LL
/-! == P01t == -/
set_option Elab.async false
set_option linter.all false
set_option maxRecDepth 1000000
set_option maxHeartbeats 1000000
namespace LL
open PySem
variable {tb : List (Nat × Rn)} {m k n : Nat} {w0 w : W} {Z : Zp} {Q : D → W → Prop}
theorem look_ok [C_law_looked tb] (hk : 9 ≤ k) (hm : 1000 ≤ m) {d : D} (h : d.gn 100000 = true) (q : Q (.bl true) w) : wp (run tb m k F_law_looked [d] w) Z Q := c_law_looked hk hm (gn_gd (by decide) d h) q
theorem perm_strs {ys : List D} {xs : List Str} (h : ys.Perm (xs.map .str)) : ∃ zs : List Str, ys = zs.map .str ∧ zs.Perm xs := by
  have : ∀ ys : List D, (∀ y ∈ ys, ∃ s, y = D.str s) → ∃ zs : List Str, ys = zs.map .str := by
    intro ys
    induction ys with
    | nil => exact fun _ => ⟨[], rfl⟩
    | cons y ys ih =>
      intro h
      obtain ⟨s, rfl⟩ := h y (by simp)
      obtain ⟨zs, rfl⟩ := ih fun y hy => h y (by simp [hy])
      exact ⟨s :: zs, rfl⟩
  obtain ⟨zs, rfl⟩ := this ys fun y hy => by
    obtain ⟨s, _, rfl⟩ := List.mem_map.mp (h.mem_iff.mp hy)
    exact ⟨s, rfl⟩
  refine ⟨zs, rfl, ?_⟩
  have := h.map (fun d => match d with | D.str s => s | _ => default)
  simpa [List.map_map, Function.comp_def] using this
theorem c_law [Claw tb] (hk : 50 ≤ k) (hm : 1000 ≤ m) {ns : List Int} (hl : ns.length ≤ 63) (q : ∀ w', Q (.bl true) w') : wp (run tb m k Flaw [.scr ns] []) Z Q := by
  refine wp_enter Claw.own rfl hk fun k hk => ?_
  unfold blaw
  refine x_step (I := fun s w' => Dw 0 w' w' ∧ s = [.val (.scr ns), .val (.ob 0), .no, .no, .no, .no, .no, .no, .no, .no, .no, .no, .no]) ?_ ?_
  · simp
    refine c_law_draw (by omega) (by omega) (by omega) fun cs b hc => ?_
    exact ⟨.refl ⟨cs, b, rfl, hc⟩, rfl⟩
  rintro s w0 ⟨hw0, rfl⟩
  -- drawn parts
  refine x_step (I := fun s w' => Dw 0 w0 w' ∧ ∃ a b c d e, s = [.val (.scr ns), .val (.ob 0), a, b, c, d, e, .no, .no, .no, .no, .no, .no]) ?_ ?_
  · rw [x_forR]
    simp [okI_0, np_nop]
    refine ⟨by decide, ?_⟩
    refine for_inv (I := fun i s w' => Dw 0 w0 w' ∧ ∃ a b c d e, s = [.val (.scr ns), .val (.ob 0), a, b, c, d, e, .no, .no, .no, .no, .no, .no]) ⟨hw0, _, _, _, _, _, rfl⟩ ?_ (fun s w h => by simpa using h)
    rintro i d hd s w2 ⟨hw2, a, b, c, e, f, rfl⟩
    unfold forRB
    refine x_step (I := fun s w' => Dw 0 w0 w' ∧ ∃ (xs : List Str) (z : D), xs.length ≤ 5 ∧ (∀ x ∈ xs, x.length ≤ 40) ∧ s = [.val (.scr ns), .val (.ob 0), .val z, .val (namesD xs), c, e, f, .no, .no, .no, .no, .no, .no]) ?_ ?_
    · simp [big]
      refine c_law_mixed (by omega) hw2 (by simp; omega) (by simp [big]) fun ys w3 hp hw3 => ?_
      obtain ⟨zs, rfl, hz⟩ := perm_strs (xs := ["x", "y", "n", "v0", "abcdefghijkl"]) hp
      refine c_law_any (by omega) hw3 (by omega) (by omega) fun j w4 hj hw4 => ?_
      have hzl := hz.length_eq
      simp at hzl
      have hs : ∀ x ∈ (["x", "y", "n", "v0", "abcdefghijkl"] : List Str), x.length ≤ 40 := by decide +kernel
      simp [cut_to (xs := zs.map D.str) (j := j) (by simp; omega)]
      refine ⟨hw4, zs.take j, by simp; omega, fun x hx => hs x (hz.mem_iff.mp (List.mem_of_mem_take hx)), ?_⟩
      simp [namesD]
    rintro s w3 ⟨hw3, xs, z, hxl, hx, rfl⟩
    refine x_step (I := fun s w' => Dw 0 w0 w' ∧ ∃ (z : D) (v : D), v.gn 2000 = true ∧ v.depth ≤ 19 ∧ s = [.val (.scr ns), .val (.ob 0), .val z, .val (namesD xs), .val v, e, f, .no, .no, .no, .no, .no, .no]) ?_ ?_
    · simp [big]
      refine c_law_of (by omega) hw3 (by simp) (by simp [big]) fun kd hkd w4 hw4 => ?_
      have hk2 : ∃ s : Str, kd = .str s ∧ (s = "e" ∨ s = "t") := by
        simp at hkd
        rcases hkd with h | h
        · exact ⟨_, h, .inl rfl⟩
        · exact ⟨_, h, .inr rfl⟩
      obtain ⟨kd, rfl, hk2⟩ := hk2
      refine c_law_of (by omega) hw4 (by simp) (by simp [big]) fun dp hdp w5 hw5 => ?_
      have hdp : ∃ i : Int, dp = .int i ∧ 0 ≤ i ∧ i ≤ 5 := by
        simp at hdp
        rcases hdp with h | h | h | h | h | h <;> exact ⟨_, h, by omega, by omega⟩
      obtain ⟨dp, rfl, hdp⟩ := hdp
      have hsp : SpOk tb m k 0 w0 [("f", 1), ("g", 0), ("h", 4)] kd xs dp := c_law_some_part (by simp) (by simp) (by omega) (by omega) hk2 (by omega)
      refine hsp hw5 fun v w6 hv hw6 => ⟨hw6, ?_⟩
      have h1 : ∀ h ∈ ([("f", 1), ("g", 0), ("h", 4)] : List (Str × Nat)), h.1.length ≤ 2000 ∧ h.2 ≤ 2000 := by decide +kernel
      have h2 := Pt.gn (n := 2000) (by omega) h1 (fun x hx' => Nat.le_trans (hx x hx') (by omega)) hv
      have h3 := hv.depth_le.2
      exact ⟨_, v, h2, by omega, rfl, rfl⟩
    rintro s w4 ⟨hw4, z, v, hv, hvd, rfl⟩
    refine x_step (I := fun s w' => Dw 0 w0 w' ∧ ∃ (u : D), u.gn 2001 = true ∧ s = [.val (.scr ns), .val (.ob 0), .val z, .val (namesD xs), .val v, .val u, f, .no, .no, .no, .no, .no, .no]) ?_ ?_
    · simp
      refine c_law_near_value 19 (by omega) hvd hv hw4 fun u w5 hu hw5 => ⟨hw5, hu⟩
    rintro s w5 ⟨hw5, u, hu, rfl⟩
    refine x_step (I := fun s w' => Dw 0 w0 w' ∧ ∃ (y : D), y.gn 2000 = true ∧ s = [.val (.scr ns), .val (.ob 0), .val z, .val (namesD xs), .val v, .val u, .val y, .no, .no, .no, .no, .no, .no]) ?_ ?_
    · simp
      refine c_law_near_form (by omega) hw5 fun u w5 hu hw5 => ⟨hw5, hu⟩
    rintro s w6 ⟨hw6, y, hy, rfl⟩
    simp [big]
    refine look_ok (by omega) hm (gn_mono (by omega) _ hv) ?_
    simp
    refine look_ok (by omega) hm (gn_mono (by omega) _ hu) ?_
    simp
    refine look_ok (by omega) hm ?_ ?_
    · refine gnt (by simp) ?_
      simp [gn_mono (show 2000 ≤ 100000 by omega) _ hy]
      decide +kernel
    simp
    have hyg := gn_gd (show 2000 ≤ lim by decide) _ hy
    refine c_is_set_form (by omega) hyg ?_

    refine c_law_is_form (by omega) hyg ?_
    refine c_law_same 0 (by omega) (by simp [D.depth]) rfl rfl ?_
    simp [D.same]
    exact hw6
  rintro s w1 ⟨hw1, a, b, c, d, e, rfl⟩
  -- great ones
  refine x_step (I := fun s w' => Dw 0 w0 w' ∧ ∃ f g, s = [.val (.scr ns), .val (.ob 0), a, b, c, d, e, f, g, .no, .no, .no, .no]) ?_ ?_
  · rw [x_for]
    simp [big]
    refine for_inv (I := fun i s w' => Dw 0 w0 w' ∧ ∃ f g, s = [.val (.scr ns), .val (.ob 0), a, b, c, d, e, f, g, .no, .no, .no, .no]) ⟨hw1, _, _, rfl⟩ ?_ (fun s w h => by simpa using h)
    rintro i z hz s w2 ⟨hw2, f, g, rfl⟩
    have hz : ∃ j : Nat, z = .int j ∧ 199 ≤ j ∧ j ≤ 201 := by
      have := List.mem_of_getElem? hz
      simp at this
      rcases this with h | h
      · exact ⟨199, by simp [h], by omega⟩
      · exact ⟨201, by simp [h], by omega⟩
    obtain ⟨j, rfl, hj⟩ := hz
    have e1 : ((j : Int) - 100) = ((j - 100 : Nat) : Int) := by omega
    have e2 : ((j : Int) - 2) = ((j - 2 : Nat) : Int) := by omega
    have mono : ∀ {d : D}, d.gn 40 = true → d.gn 100000 = true := fun h => gn_mono (by omega) _ h
    have ls : ∀ x ∈ (["same", "not", "mul"] : List Str), (D.str x).gn 100000 = true := by decide +kernel
    simp [big]
    rw [e1]
    refine c_law_wide (by omega) hw2 (by omega) fun p1 w3 hp1 hw3 => ?_
    refine c_law_wide (many := 97) (by omega) hw3 (by omega) fun p2 w4 hp2 hw4 => ?_
    refine c_law_wide (by omega) hw4 (by omega) fun p3 w5 hp3 hw5 => ?_
    refine look_ok (by omega) hm (mono hp3) ?_
    simp
    rw [e2]
    refine c_law_wide (by omega) hw5 (by omega) fun p4 w6 hp4 hw6 => ?_
    refine look_ok (by omega) hm (gnt (by simp) (by simp [ls, mono hp4]; rfl)) ?_
    simp
    refine look_ok (by omega) hm (gnt (by simp) (by simp [ls]; exact gnt (by simp) (by simp [ls, mono hp1, mono hp2]))) ?_
    simp
    exact hw6
  rintro s w2 ⟨hw2, f, g, rfl⟩
  -- deep ones
  have ls : ∀ x ∈ (["same", "not", "mul", "add", "name", "x", "if", "less", "num", "let", "y", "call", "f", "times"] : List Str), (D.str x).gn 40 = true := by decide +kernel
  refine x_step (I := fun s w' => Dw 0 w0 w' ∧ ∃ a c h i, s = [.val (.scr ns), .val (.ob 0), a, b, c, d, e, f, g, h, i, .no, .no]) ?_ ?_
  · rw [x_for]
    simp [big]
    refine for_inv (I := fun i s w' => Dw 0 w0 w' ∧ ∃ a c h i, s = [.val (.scr ns), .val (.ob 0), a, b, c, d, e, f, g, h, i, .no, .no]) ⟨hw2, _, _, _, _, rfl⟩ ?_ (fun s w h => by simpa using h)
    rintro i z hz s w3 ⟨hw3, a, c, h, i', rfl⟩
    have hz : ∃ j : Int, z = .int j ∧ 29 ≤ j ∧ j ≤ 31 := by
      have := List.mem_of_getElem? hz
      simp at this
      rcases this with h | h | h <;> exact ⟨_, h, by omega, by omega⟩
    obtain ⟨j, rfl, hj⟩ := hz
    rw [x_forB]
    simp only [setT_1, po_some]
    refine x_step (I := fun s w' => Dw 0 w0 w' ∧ ∃ p, p.gn 40 = true ∧ s = [.val (.scr ns), .val (.ob 0), a, b, .val p, d, e, f, g, .val (.int j), i', .no, .no]) ?_ ?_
    · simp [big]
      refine ⟨hw3, ?_⟩
      exact gnt (by simp) (by simp [ls]; rfl)
    rintro s w4 ⟨hw4, p, hp, rfl⟩
    refine x_step (I := fun s w' => Dw 0 w0 w' ∧ ∃ a p i', p.gn 40 = true ∧ s = [.val (.scr ns), .val (.ob 0), a, b, .val p, d, e, f, g, .val (.int j), i', .no, .no]) ?_ ?_
    · rw [x_forR]
      have o1 : okI (j - 1) = true := by simp [okI]; omega
      simp [okI_0, np_nop, o1]
      refine for_inv (I := fun i s w' => Dw 0 w0 w' ∧ ∃ a p i', p.gn 40 = true ∧ s = [.val (.scr ns), .val (.ob 0), a, b, .val p, d, e, f, g, .val (.int j), i', .no, .no]) ⟨hw4, _, p, _, hp, rfl⟩ ?_ (fun s w h => by simpa using h)
      rintro i z2 hz2 s w5 ⟨hw5, a, p, i', hp, rfl⟩
      unfold forRB
      simp [big]
      refine c_law_of (by omega) hw5 (by simp) (by simp [big]) fun x hx w6 hw6 => ?_
      have gp : x.gn 40 = true := by
        simp at hx
        have n1 : ∀ i : Int, (D.tup [D.str "num", .int i]).gn 40 = true := fun i => gnt (by simp) (by simp [ls]; rfl)
        have n2 : (D.tup [D.str "name", .str "x"]).gn 40 = true := gnt (by simp) (by simp [ls])
        have n3 : (D.tup [D.str "less", D.tup [D.str "num", .int 1], D.tup [D.str "num", .int 2]]).gn 40 = true := gnt (by simp) (by simp [ls, n1])
        have n4 : (D.tup [p]).gn 40 = true := gnt (by simp) (by simp [hp])
        have n5 : ∀ i : Int, (D.int i).gn 40 = true := fun i => rfl
        rcases hx with rfl | rfl | rfl | rfl | rfl | rfl <;> exact gnt (by simp) (by simp [ls, n1, n2, n3, n4, n5, hp])
      exact ⟨hw6, gp⟩
    rintro s w5 ⟨hw5, a, p, i', hp, rfl⟩
    simp
    refine look_ok (by omega) hm (gn_mono (by omega) _ hp) ?_
    simp
    exact hw5
  rintro s w3 ⟨hw3, a, c, h, i, rfl⟩
  refine x_step (I := fun s w' => Dw 0 w0 w' ∧ ∃ xs : List D, xs.length ≤ 10 ∧ (∀ x ∈ xs, x.gn 40 = true) ∧ s = [.val (.scr ns), .val (.ob 0), a, b, c, d, e, f, g, h, i, .val (.lst xs), .no]) ?_ ?_
  · simp (config := {maxSteps := 1000000}) [big, opD]
    exact ⟨hw3, by decide +kernel⟩
  rintro s w4 ⟨hw4, xs, xl, hx, rfl⟩
  refine x_step (I := fun s w' => Dw 0 w0 w' ∧ ∃ xs : List D, xs.length ≤ 20 ∧ (∀ x ∈ xs, x.gn 40 = true) ∧ s = [.val (.scr ns), .val (.ob 0), a, b, c, d, e, f, g, h, i, .val (.lst xs), .no]) ?_ ?_
  · simp (config := {maxSteps := 1000000}) [big, opD, show xs.length ≤ 16777000 by omega]
    refine ⟨fun _ => ⟨by assumption, by omega, ?_⟩, by omega⟩
    rintro x (h | h)
    · exact hx x h
    · first
        | (rcases h with rfl | rfl | rfl | rfl | rfl | rfl <;> decide +kernel)
        | (rcases h with rfl | rfl | rfl | rfl <;> decide +kernel)
        | (rcases h with rfl | rfl <;> decide +kernel)
  rintro s w5 ⟨hw5, xs, xl, hx, rfl⟩
  refine x_step (I := fun s w' => Dw 0 w0 w' ∧ ∃ xs : List D, xs.length ≤ 30 ∧ (∀ x ∈ xs, x.gn 40 = true) ∧ s = [.val (.scr ns), .val (.ob 0), a, b, c, d, e, f, g, h, i, .val (.lst xs), .no]) ?_ ?_
  · simp (config := {maxSteps := 1000000}) [big, opD, show xs.length ≤ 16777000 by omega]
    refine ⟨fun _ => ⟨by assumption, by omega, ?_⟩, by omega⟩
    rintro x (h | h)
    · exact hx x h
    · first
        | (rcases h with rfl | rfl | rfl | rfl | rfl | rfl <;> decide +kernel)
        | (rcases h with rfl | rfl | rfl | rfl <;> decide +kernel)
        | (rcases h with rfl | rfl <;> decide +kernel)
  rintro s w6 ⟨hw6, xs, xl, hx, rfl⟩
  refine x_step (I := fun s w' => Dw 0 w0 w' ∧ ∃ xs : List D, xs.length ≤ 40 ∧ (∀ x ∈ xs, x.gn 40 = true) ∧ s = [.val (.scr ns), .val (.ob 0), a, b, c, d, e, f, g, h, i, .val (.lst xs), .no]) ?_ ?_
  · simp (config := {maxSteps := 1000000}) [big, opD, show xs.length ≤ 16777000 by omega]
    refine ⟨fun _ => ⟨by assumption, by omega, ?_⟩, by omega⟩
    rintro x (h | h)
    · exact hx x h
    · first
        | (rcases h with rfl | rfl | rfl | rfl | rfl | rfl <;> decide +kernel)
        | (rcases h with rfl | rfl | rfl | rfl <;> decide +kernel)
        | (rcases h with rfl | rfl <;> decide +kernel)
  rintro s w7 ⟨hw7, xs, xl, hx, rfl⟩
  refine x_step (I := fun s w' => Dw 0 w0 w' ∧ ∃ xs : List D, xs.length ≤ 50 ∧ (∀ x ∈ xs, x.gn 40 = true) ∧ s = [.val (.scr ns), .val (.ob 0), a, b, c, d, e, f, g, h, i, .val (.lst xs), .no]) ?_ ?_
  · simp (config := {maxSteps := 1000000}) [big, opD, show xs.length ≤ 16777000 by omega]
    refine ⟨fun _ => ⟨by assumption, by omega, ?_⟩, by omega⟩
    rintro x (h | h)
    · exact hx x h
    · first
        | (rcases h with rfl | rfl | rfl | rfl | rfl | rfl <;> decide +kernel)
        | (rcases h with rfl | rfl | rfl | rfl <;> decide +kernel)
        | (rcases h with rfl | rfl <;> decide +kernel)
  rintro s w8 ⟨hw8, xs, xl, hx, rfl⟩
  simp
  refine comp_none (p := fun _ => true) (g := id) (fun x h => ?_) (by simp [big]; omega) ?_
  · simp
    exact look_ok (by omega) hm (gn_mono (by omega) _ (hx x h)) (by simp)
  · rw [List.all_eq_true.mpr (fun _ _ => rfl)]
    exact q _
/-- the law, in plain Lean -/
theorem k01_pure [Claw tb] (ns : List Int) (hl : ns.length ≤ 63) : ∃ m w', run tb m 60 Flaw [.scr ns] [] = .ok (.bl true, w') := by
  have h : wp (run tb 10000 60 Flaw [.scr ns] []) noZ (fun d _ => d = .bl true) := c_law (by omega) (by omega) hl fun _ => rfl
  obtain ⟨d, w', e, rfl⟩ := wp_to h
  exact ⟨_, w', e⟩
end LL
/-! == K_k01b == -/
set_option Elab.async false
set_option linter.all false
set_option maxRecDepth 1000000
set_option maxHeartbeats 4000000
namespace K_k01
open PySem PySem.Spec PyProof.Rows L2 LL
def fa : List He.Fa := [.glo "is_name",
  .glo "is_integer",
  .glo "is_index",
  .glo "is_row_of",
  .glo "is_set_form",
  .glo "is_sign",
  .glo "is_part_head",
  .glo "inner_parts",
  .glo "is_part",
  .glo "is_expression",
  .glo "is_test",
  .glo "_law_draw",
  .glo "_law_any",
  .glo "_law_of",
  .glo "_law_mixed",
  .glo "_law_same",
  .glo "_law_is_int",
  .glo "_law_words",
  .glo "_law_is_name",
  .glo "_law_forms",
  .glo "_law_is_check",
  .glo "_law_some_set",
  .glo "_law_some_part",
  .glo "_law_is_row",
  .glo "_law_is_form",
  .glo "_law_fits",
  .glo "_law_is_part",
  .glo "_law_near_value",
  .glo "_law_wide",
  .glo "_law_looked",
  .glo "_law_near_form",
  .glo "law",
  .free "abs",
  .free "all",
  .free "bool",
  .free "int",
  .free "isinstance",
  .free "len",
  .free "list",
  .free "min",
  .free "range",
  .free "str",
  .free "tuple",
  .free "zip",
  .str "DIGITS" "0123456789",
  .str "LETTERS" "abcdefghijklmnopqrstuvwxyz",
  .int "MOST_SIGNS" 12,
  .glo "WORDS",
  .int "MOST_HANDED" 4,
  .int "MOST_PLACES" 1000,
  .glo "WIDTHS",
  .int "MOST_FACTOR" 64,
  .int "MOST_NUMBER" 1000000,
  .glo "FORMS",
  .glo "TESTS",
  .int "MOST_PARTS" 200,
  .int "MOST_WITHIN" 30]
def fn : List He.DefD := [defD "is_name" (topS 5),
  defD "is_integer" (topS 7),
  defD "is_index" (topS 8),
  defD "is_row_of" (topS 19),
  defD "is_set_form" (topS 20),
  defD "is_sign" (topS 21),
  defD "is_part_head" (topS 22),
  defD "inner_parts" (topS 23),
  defD "is_part" (topS 24),
  defD "is_expression" (topS 25),
  defD "is_test" (topS 26),
  defD "_law_draw" (topS 28),
  defD "_law_any" (topS 29),
  defD "_law_of" (topS 30),
  defD "_law_mixed" (topS 31),
  defD "_law_same" (topS 32),
  defD "_law_is_int" (topS 33),
  defD "_law_words" (topS 34),
  defD "_law_is_name" (topS 35),
  defD "_law_forms" (topS 36),
  defD "_law_is_check" (topS 37),
  defD "_law_some_set" (topS 38),
  defD "_law_some_part" (topS 39),
  defD "_law_is_row" (topS 40),
  defD "_law_is_form" (topS 41),
  defD "_law_fits" (topS 42),
  defD "_law_is_part" (topS 43),
  defD "_law_near_value" (topS 44),
  defD "_law_wide" (topS 45),
  defD "_law_looked" (topS 46),
  defD "_law_near_form" (topS 47),
  defD "law" (topS 48)]
def ts : List He.Tab := [((fun K => He.ga K "FORMS"), ["num", "name", "add", "sub", "mul", "div", "rest", "if", "let", "call", "times", "fail", "less", "same", "not", "both", "either", "in"])]
def ex (K : PySem.W.Frag) : Bool := true && He.tupB K "WORDS" [.str "num", .str "name", .str "add", .str "sub", .str "mul", .str "div", .str "rest", .str "if", .str "let", .str "call", .str "times", .str "fail", .str "less", .str "same", .str "not", .str "both", .str "either", .str "in", .str "fun", .str "edition", .str "set", .str "change", .str "table", .str "piece", .str "history", .str "wish", .str "code", .str "proc", .str "then", .str "else", .str "end", .str "as", .str "do", .str "at", .str "to", .str "by", .str "of", .str "from", .str "all", .str "some", .str "told", .str "failed", .str "is", .str "where", .str "move", .str "jump", .str "loop", .str "back", .str "rows", .str "slots", .str "entry", .str "log", .str "with", .str "yes", .str "no", .str "or"] && He.tupB K "WIDTHS" [.int 1, .int 2, .int 4, .int 8, .int 16] && dctB K (He.ga K "FORMS") [.str "n", .str "x", .str "ee", .str "ee", .str "fe", .str "eg", .str "eg", .str "tee", .str "xee", .str "xE", .str "fxee", .str "x", .str "ee", .str "ee", .str "t", .str "tt", .str "tt", .str "sE"] && He.tupB K "TESTS" [.str "less", .str "same", .str "not", .str "both", .str "either", .str "in"]
abbrev R : PySem.W.OpenRow := PySem.W.OpenLaw.row PySem.Challenge.rw_justwhere_k01_whole_expressions_and_test
abbrev hk : PySem.W.Hook := He.hookX 5 fa fn ts [] ex
def ob (s : PySem.W.SharedT) : He.AlX := He.obsX 5 fa fn ts [] ex (HandSHeadRun.getT s)
theorem ob_eq (s : PySem.W.SharedT) : ob s = hk.obs s.abs := He.obsX_eq (HandSHeadRun.getT_eq s)
def loose0 : List PySem.Str := ["LETTERS", "DIGITS", "MOST_SIGNS", "WORDS", "is_name", "is_integer", "is_index", "MOST_PARTS", "MOST_WITHIN", "MOST_NUMBER", "MOST_FACTOR", "MOST_HANDED", "MOST_PLACES", "WIDTHS", "TESTS", "FORMS", "is_row_of", "is_set_form", "is_sign", "is_part_head", "inner_parts", "is_part", "is_expression", "is_test", "_law_draw", "_law_any", "_law_of", "_law_mixed", "_law_same", "_law_is_int"]
def loose1 : List PySem.Str := ["_law_words", "_law_is_name", "_law_forms", "_law_is_check", "_law_some_set", "_law_some_part", "_law_is_row", "_law_is_form", "_law_fits", "_law_is_part", "_law_near_value", "_law_wide", "_law_looked", "_law_near_form"]
def loose : List PySem.Str := loose0 ++ loose1
set_option maxHeartbeats 0 in
theorem hrun (w : World) : HandSHeadRun.RunEq R (PySem.W.view R.prog [48]) hk ob 6000 loose w :=
  PySem.W.byRow2 "special-get-raises" (P := fun w => HandSHeadRun.RunEq R (PySem.W.view R.prog [48]) hk ob 6000 loose w) (fun w => by intro os; kernel_rfl) (fun w => by intro os; kernel_rfl) w
theorem bnd_is_name : BndOk ⟨"is_name", ["value"], false, false⟩ (topS 5) := fun _ _ _ _ _ _ us hl => match us, hl with | [_], _ => rfl
theorem bkw_is_name : BndKw ⟨"is_name", ["value"], false, false⟩ (topS 5) := fun h => by cases h
theorem bnd_is_integer : BndOk ⟨"is_integer", ["value"], false, false⟩ (topS 7) := fun _ _ _ _ _ _ us hl => match us, hl with | [_], _ => rfl
theorem bkw_is_integer : BndKw ⟨"is_integer", ["value"], false, false⟩ (topS 7) := fun h => by cases h
theorem bnd_is_index : BndOk ⟨"is_index", ["value", "many"], false, false⟩ (topS 8) := fun _ _ _ _ _ _ us hl => match us, hl with | [_, _], _ => rfl
theorem bkw_is_index : BndKw ⟨"is_index", ["value", "many"], false, false⟩ (topS 8) := fun h => by cases h
theorem bnd_is_row_of : BndOk ⟨"is_row_of", ["value", "many", "bound"], false, false⟩ (topS 19) := fun _ _ _ _ _ _ us hl => match us, hl with | [_, _, _], _ => rfl
theorem bkw_is_row_of : BndKw ⟨"is_row_of", ["value", "many", "bound"], false, false⟩ (topS 19) := fun h => by cases h
theorem bnd_is_set_form : BndOk ⟨"is_set_form", ["value"], false, true⟩ (topS 20) := fun _ _ _ _ _ _ us hl => match us, hl with | [_], _ => rfl
theorem bkw_is_set_form : BndKw ⟨"is_set_form", ["value"], false, true⟩ (topS 20) := fun _ _ _ _ _ _ _ us hl => match us, hl with | [_], _ => rfl
theorem bnd_is_sign : BndOk ⟨"is_sign", ["sign", "value"], false, false⟩ (topS 21) := fun _ _ _ _ _ _ us hl => match us, hl with | [_, _], _ => rfl
theorem bkw_is_sign : BndKw ⟨"is_sign", ["sign", "value"], false, false⟩ (topS 21) := fun h => by cases h
theorem bnd_is_part_head : BndOk ⟨"is_part_head", ["value", "kind"], false, false⟩ (topS 22) := fun _ _ _ _ _ _ us hl => match us, hl with | [_, _], _ => rfl
theorem bkw_is_part_head : BndKw ⟨"is_part_head", ["value", "kind"], false, false⟩ (topS 22) := fun h => by cases h
theorem bnd_inner_parts : BndOk ⟨"inner_parts", ["part"], false, false⟩ (topS 23) := fun _ _ _ _ _ _ us hl => match us, hl with | [_], _ => rfl
theorem bkw_inner_parts : BndKw ⟨"inner_parts", ["part"], false, false⟩ (topS 23) := fun h => by cases h
theorem bnd_is_part : BndOk ⟨"is_part", ["value", "kind"], false, false⟩ (topS 24) := fun _ _ _ _ _ _ us hl => match us, hl with | [_, _], _ => rfl
theorem bkw_is_part : BndKw ⟨"is_part", ["value", "kind"], false, false⟩ (topS 24) := fun h => by cases h
theorem bnd_is_expression : BndOk ⟨"is_expression", ["value"], false, true⟩ (topS 25) := fun _ _ _ _ _ _ us hl => match us, hl with | [_], _ => rfl
theorem bkw_is_expression : BndKw ⟨"is_expression", ["value"], false, true⟩ (topS 25) := fun _ _ _ _ _ _ _ us hl => match us, hl with | [_], _ => rfl
theorem bnd_is_test : BndOk ⟨"is_test", ["value"], false, true⟩ (topS 26) := fun _ _ _ _ _ _ us hl => match us, hl with | [_], _ => rfl
theorem bkw_is_test : BndKw ⟨"is_test", ["value"], false, true⟩ (topS 26) := fun _ _ _ _ _ _ _ us hl => match us, hl with | [_], _ => rfl
theorem bnd__law_draw : BndOk ⟨"_law_draw", ["script", "salt"], false, false⟩ (topS 28) := fun _ _ _ _ _ _ us hl => match us, hl with | [_, _], _ => rfl
theorem bkw__law_draw : BndKw ⟨"_law_draw", ["script", "salt"], false, false⟩ (topS 28) := fun h => by cases h
theorem bnd__law_any : BndOk ⟨"_law_any", ["deal", "bound"], false, false⟩ (topS 29) := fun _ _ _ _ _ _ us hl => match us, hl with | [_, _], _ => rfl
theorem bkw__law_any : BndKw ⟨"_law_any", ["deal", "bound"], false, false⟩ (topS 29) := fun h => by cases h
theorem bnd__law_of : BndOk ⟨"_law_of", ["deal", "some"], false, false⟩ (topS 30) := fun _ _ _ _ _ _ us hl => match us, hl with | [_, _], _ => rfl
theorem bkw__law_of : BndKw ⟨"_law_of", ["deal", "some"], false, false⟩ (topS 30) := fun h => by cases h
theorem bnd__law_mixed : BndOk ⟨"_law_mixed", ["deal", "some"], false, false⟩ (topS 31) := fun _ _ _ _ _ _ us hl => match us, hl with | [_, _], _ => rfl
theorem bkw__law_mixed : BndKw ⟨"_law_mixed", ["deal", "some"], false, false⟩ (topS 31) := fun h => by cases h
theorem bnd__law_same : BndOk ⟨"_law_same", ["value", "due"], false, false⟩ (topS 32) := fun _ _ _ _ _ _ us hl => match us, hl with | [_, _], _ => rfl
theorem bkw__law_same : BndKw ⟨"_law_same", ["value", "due"], false, false⟩ (topS 32) := fun h => by cases h
theorem bnd__law_is_int : BndOk ⟨"_law_is_int", ["value"], false, false⟩ (topS 33) := fun _ _ _ _ _ _ us hl => match us, hl with | [_], _ => rfl
theorem bkw__law_is_int : BndKw ⟨"_law_is_int", ["value"], false, false⟩ (topS 33) := fun h => by cases h
theorem bnd__law_words : BndOk ⟨"_law_words", [], false, false⟩ (topS 34) := fun _ _ _ _ _ _ us hl => match us, hl with | [], _ => rfl
theorem bkw__law_words : BndKw ⟨"_law_words", [], false, false⟩ (topS 34) := fun h => by cases h
theorem bnd__law_is_name : BndOk ⟨"_law_is_name", ["value"], false, false⟩ (topS 35) := fun _ _ _ _ _ _ us hl => match us, hl with | [_], _ => rfl
theorem bkw__law_is_name : BndKw ⟨"_law_is_name", ["value"], false, false⟩ (topS 35) := fun h => by cases h
theorem bnd__law_forms : BndOk ⟨"_law_forms", [], false, false⟩ (topS 36) := fun _ _ _ _ _ _ us hl => match us, hl with | [], _ => rfl
theorem bkw__law_forms : BndKw ⟨"_law_forms", [], false, false⟩ (topS 36) := fun h => by cases h
theorem bnd__law_is_check : BndOk ⟨"_law_is_check", ["part"], false, false⟩ (topS 37) := fun _ _ _ _ _ _ us hl => match us, hl with | [_], _ => rfl
theorem bkw__law_is_check : BndKw ⟨"_law_is_check", ["part"], false, false⟩ (topS 37) := fun h => by cases h
theorem bnd__law_some_set : BndOk ⟨"_law_some_set", ["deal", "many"], false, false⟩ (topS 38) := fun _ _ _ _ _ _ us hl => match us, hl with | [_, _], _ => rfl
theorem bkw__law_some_set : BndKw ⟨"_law_some_set", ["deal", "many"], false, false⟩ (topS 38) := fun h => by cases h
theorem bnd__law_some_part : BndOk ⟨"_law_some_part", ["deal", "kind", "names", "heads", "deep"], false, false⟩ (topS 39) := fun _ _ _ _ _ _ us hl => match us, hl with | [_, _, _, _, _], _ => rfl
theorem bkw__law_some_part : BndKw ⟨"_law_some_part", ["deal", "kind", "names", "heads", "deep"], false, false⟩ (topS 39) := fun h => by cases h
theorem bnd__law_is_row : BndOk ⟨"_law_is_row", ["value", "many", "bound"], false, false⟩ (topS 40) := fun _ _ _ _ _ _ us hl => match us, hl with | [_, _, _], _ => rfl
theorem bkw__law_is_row : BndKw ⟨"_law_is_row", ["value", "many", "bound"], false, false⟩ (topS 40) := fun h => by cases h
theorem bnd__law_is_form : BndOk ⟨"_law_is_form", ["value"], false, false⟩ (topS 41) := fun _ _ _ _ _ _ us hl => match us, hl with | [_], _ => rfl
theorem bkw__law_is_form : BndKw ⟨"_law_is_form", ["value"], false, false⟩ (topS 41) := fun h => by cases h
theorem bnd__law_fits : BndOk ⟨"_law_fits", ["sign", "one"], false, false⟩ (topS 42) := fun _ _ _ _ _ _ us hl => match us, hl with | [_, _], _ => rfl
theorem bkw__law_fits : BndKw ⟨"_law_fits", ["sign", "one"], false, false⟩ (topS 42) := fun h => by cases h
theorem bnd__law_is_part : BndOk ⟨"_law_is_part", ["value", "kind"], false, false⟩ (topS 43) := fun _ _ _ _ _ _ us hl => match us, hl with | [_, _], _ => rfl
theorem bkw__law_is_part : BndKw ⟨"_law_is_part", ["value", "kind"], false, false⟩ (topS 43) := fun h => by cases h
theorem bnd__law_near_value : BndOk ⟨"_law_near_value", ["deal", "value"], false, false⟩ (topS 44) := fun _ _ _ _ _ _ us hl => match us, hl with | [_, _], _ => rfl
theorem bkw__law_near_value : BndKw ⟨"_law_near_value", ["deal", "value"], false, false⟩ (topS 44) := fun h => by cases h
theorem bnd__law_wide : BndOk ⟨"_law_wide", ["deal", "many", "deep"], false, false⟩ (topS 45) := fun _ _ _ _ _ _ us hl => match us, hl with | [_, _, _], _ => rfl
theorem bkw__law_wide : BndKw ⟨"_law_wide", ["deal", "many", "deep"], false, false⟩ (topS 45) := fun h => by cases h
theorem bnd__law_looked : BndOk ⟨"_law_looked", ["value"], false, false⟩ (topS 46) := fun _ _ _ _ _ _ us hl => match us, hl with | [_], _ => rfl
theorem bkw__law_looked : BndKw ⟨"_law_looked", ["value"], false, false⟩ (topS 46) := fun h => by cases h
theorem bnd__law_near_form : BndOk ⟨"_law_near_form", ["deal"], false, false⟩ (topS 47) := fun _ _ _ _ _ _ us hl => match us, hl with | [_], _ => rfl
theorem bkw__law_near_form : BndKw ⟨"_law_near_form", ["deal"], false, false⟩ (topS 47) := fun h => by cases h
theorem bnd_law : BndOk ⟨"law", ["script"], false, false⟩ (topS 48) := fun _ _ _ _ _ _ us hl => match us, hl with | [_], _ => rfl
theorem bkw_law : BndKw ⟨"law", ["script"], false, false⟩ (topS 48) := fun h => by cases h
section
variable {K : PySem.W.Frag} {w : World} {h : Heap} {mg : Str → Option Value}
theorem fns (X : K.In h) (G : h.Ns mainGlobals mg) (c : He.SaysX fa fn ts [] ex w h K) : ∀ e ∈ L.es, FnF K mg e.2.i e.2.st := (all_cons (show FnF K mg ⟨"is_name", ["value"], false, false⟩ (topS 5) from fnF_of X G c.t.d bnd_is_name bkw_is_name 0 rfl 0 rfl)
 (all_cons (show FnF K mg ⟨"is_integer", ["value"], false, false⟩ (topS 7) from fnF_of X G c.t.d bnd_is_integer bkw_is_integer 1 rfl 1 rfl)
 (all_cons (show FnF K mg ⟨"is_index", ["value", "many"], false, false⟩ (topS 8) from fnF_of X G c.t.d bnd_is_index bkw_is_index 2 rfl 2 rfl)
 (all_cons (show FnF K mg ⟨"is_row_of", ["value", "many", "bound"], false, false⟩ (topS 19) from fnF_of X G c.t.d bnd_is_row_of bkw_is_row_of 3 rfl 3 rfl)
 (all_cons (show FnF K mg ⟨"is_set_form", ["value"], false, true⟩ (topS 20) from fnF_of X G c.t.d bnd_is_set_form bkw_is_set_form 4 rfl 4 rfl)
 (all_cons (show FnF K mg ⟨"is_sign", ["sign", "value"], false, false⟩ (topS 21) from fnF_of X G c.t.d bnd_is_sign bkw_is_sign 5 rfl 5 rfl)
 (all_cons (show FnF K mg ⟨"is_part_head", ["value", "kind"], false, false⟩ (topS 22) from fnF_of X G c.t.d bnd_is_part_head bkw_is_part_head 6 rfl 6 rfl)
 (all_cons (show FnF K mg ⟨"inner_parts", ["part"], false, false⟩ (topS 23) from fnF_of X G c.t.d bnd_inner_parts bkw_inner_parts 7 rfl 7 rfl)
 (all_cons (show FnF K mg ⟨"is_part", ["value", "kind"], false, false⟩ (topS 24) from fnF_of X G c.t.d bnd_is_part bkw_is_part 8 rfl 8 rfl)
 (all_cons (show FnF K mg ⟨"is_expression", ["value"], false, true⟩ (topS 25) from fnF_of X G c.t.d bnd_is_expression bkw_is_expression 9 rfl 9 rfl)
 (all_cons (show FnF K mg ⟨"is_test", ["value"], false, true⟩ (topS 26) from fnF_of X G c.t.d bnd_is_test bkw_is_test 10 rfl 10 rfl)
 (all_cons (show FnF K mg ⟨"_law_draw", ["script", "salt"], false, false⟩ (topS 28) from fnF_of X G c.t.d bnd__law_draw bkw__law_draw 11 rfl 11 rfl)
 (all_cons (show FnF K mg ⟨"_law_any", ["deal", "bound"], false, false⟩ (topS 29) from fnF_of X G c.t.d bnd__law_any bkw__law_any 12 rfl 12 rfl)
 (all_cons (show FnF K mg ⟨"_law_of", ["deal", "some"], false, false⟩ (topS 30) from fnF_of X G c.t.d bnd__law_of bkw__law_of 13 rfl 13 rfl)
 (all_cons (show FnF K mg ⟨"_law_mixed", ["deal", "some"], false, false⟩ (topS 31) from fnF_of X G c.t.d bnd__law_mixed bkw__law_mixed 14 rfl 14 rfl)
 (all_cons (show FnF K mg ⟨"_law_same", ["value", "due"], false, false⟩ (topS 32) from fnF_of X G c.t.d bnd__law_same bkw__law_same 15 rfl 15 rfl)
 (all_cons (show FnF K mg ⟨"_law_is_int", ["value"], false, false⟩ (topS 33) from fnF_of X G c.t.d bnd__law_is_int bkw__law_is_int 16 rfl 16 rfl)
 (all_cons (show FnF K mg ⟨"_law_words", [], false, false⟩ (topS 34) from fnF_of X G c.t.d bnd__law_words bkw__law_words 17 rfl 17 rfl)
 (all_cons (show FnF K mg ⟨"_law_is_name", ["value"], false, false⟩ (topS 35) from fnF_of X G c.t.d bnd__law_is_name bkw__law_is_name 18 rfl 18 rfl)
 (all_cons (show FnF K mg ⟨"_law_forms", [], false, false⟩ (topS 36) from fnF_of X G c.t.d bnd__law_forms bkw__law_forms 19 rfl 19 rfl)
 (all_cons (show FnF K mg ⟨"_law_is_check", ["part"], false, false⟩ (topS 37) from fnF_of X G c.t.d bnd__law_is_check bkw__law_is_check 20 rfl 20 rfl)
 (all_cons (show FnF K mg ⟨"_law_some_set", ["deal", "many"], false, false⟩ (topS 38) from fnF_of X G c.t.d bnd__law_some_set bkw__law_some_set 21 rfl 21 rfl)
 (all_cons (show FnF K mg ⟨"_law_some_part", ["deal", "kind", "names", "heads", "deep"], false, false⟩ (topS 39) from fnF_of X G c.t.d bnd__law_some_part bkw__law_some_part 22 rfl 22 rfl)
 (all_cons (show FnF K mg ⟨"_law_is_row", ["value", "many", "bound"], false, false⟩ (topS 40) from fnF_of X G c.t.d bnd__law_is_row bkw__law_is_row 23 rfl 23 rfl)
 (all_cons (show FnF K mg ⟨"_law_is_form", ["value"], false, false⟩ (topS 41) from fnF_of X G c.t.d bnd__law_is_form bkw__law_is_form 24 rfl 24 rfl)
 (all_cons (show FnF K mg ⟨"_law_fits", ["sign", "one"], false, false⟩ (topS 42) from fnF_of X G c.t.d bnd__law_fits bkw__law_fits 25 rfl 25 rfl)
 (all_cons (show FnF K mg ⟨"_law_is_part", ["value", "kind"], false, false⟩ (topS 43) from fnF_of X G c.t.d bnd__law_is_part bkw__law_is_part 26 rfl 26 rfl)
 (all_cons (show FnF K mg ⟨"_law_near_value", ["deal", "value"], false, false⟩ (topS 44) from fnF_of X G c.t.d bnd__law_near_value bkw__law_near_value 27 rfl 27 rfl)
 (all_cons (show FnF K mg ⟨"_law_wide", ["deal", "many", "deep"], false, false⟩ (topS 45) from fnF_of X G c.t.d bnd__law_wide bkw__law_wide 28 rfl 28 rfl)
 (all_cons (show FnF K mg ⟨"_law_looked", ["value"], false, false⟩ (topS 46) from fnF_of X G c.t.d bnd__law_looked bkw__law_looked 29 rfl 29 rfl)
 (all_cons (show FnF K mg ⟨"_law_near_form", ["deal"], false, false⟩ (topS 47) from fnF_of X G c.t.d bnd__law_near_form bkw__law_near_form 30 rfl 30 rfl)
 (all_cons (show FnF K mg ⟨"law", ["script"], false, false⟩ (topS 48) from fnF_of X G c.t.d bnd_law bkw_law 31 rfl 31 rfl)
 all_nil))))))))))))))))))))))))))))))))
theorem frees (X : K.In h) (G : h.Ns mainGlobals mg) (c : He.SaysX fa fn ts [] ex w h K) : ∀ x ∈ L.free, mg x = none := (all_cons (free_of' X G c.t.d 32 rfl)
 (all_cons (free_of' X G c.t.d 33 rfl)
 (all_cons (free_of' X G c.t.d 34 rfl)
 (all_cons (free_of' X G c.t.d 35 rfl)
 (all_cons (free_of' X G c.t.d 36 rfl)
 (all_cons (free_of' X G c.t.d 37 rfl)
 (all_cons (free_of' X G c.t.d 38 rfl)
 (all_cons (free_of' X G c.t.d 39 rfl)
 (all_cons (free_of' X G c.t.d 40 rfl)
 (all_cons (free_of' X G c.t.d 41 rfl)
 (all_cons (free_of' X G c.t.d 42 rfl)
 (all_cons (free_of' X G c.t.d 43 rfl)
 all_nil))))))))))))
theorem gls (X : K.In h) (G : h.Ns mainGlobals mg) (c : He.SaysX fa fn ts [] ex w h K) : ∀ p ∈ L.globs, GlF K w.params mg p.1 p.2 := by
  have m := c.more
  simp only [ex, Bool.and_eq_true] at m
  obtain ⟨⟨⟨⟨_, m0⟩, m1⟩, m2⟩, m3⟩ := m
  exact (all_cons (show GlF K w.params mg "DIGITS" (.str "0123456789") from (gl_str X G c.t.d 44 rfl))
 (all_cons (show GlF K w.params mg "LETTERS" (.str "abcdefghijklmnopqrstuvwxyz") from (gl_str X G c.t.d 45 rfl))
 (all_cons (show GlF K w.params mg "MOST_SIGNS" (.int 12) from (gl_int X G c.t.d 46 rfl))
 (all_cons (show GlF K w.params mg "WORDS" (.tup [.str "num", .str "name", .str "add", .str "sub", .str "mul", .str "div", .str "rest", .str "if", .str "let", .str "call", .str "times", .str "fail", .str "less", .str "same", .str "not", .str "both", .str "either", .str "in", .str "fun", .str "edition", .str "set", .str "change", .str "table", .str "piece", .str "history", .str "wish", .str "code", .str "proc", .str "then", .str "else", .str "end", .str "as", .str "do", .str "at", .str "to", .str "by", .str "of", .str "from", .str "all", .str "some", .str "told", .str "failed", .str "is", .str "where", .str "move", .str "jump", .str "loop", .str "back", .str "rows", .str "slots", .str "entry", .str "log", .str "with", .str "yes", .str "no", .str "or"]) from (gl_tup X G c.t.d 47 rfl rfl m0))
 (all_cons (show GlF K w.params mg "MOST_HANDED" (.int 4) from (gl_int X G c.t.d 48 rfl))
 (all_cons (show GlF K w.params mg "MOST_PLACES" (.int 1000) from (gl_int X G c.t.d 49 rfl))
 (all_cons (show GlF K w.params mg "WIDTHS" (.tup [.int 1, .int 2, .int 4, .int 8, .int 16]) from (gl_tup X G c.t.d 50 rfl rfl m1))
 (all_cons (show GlF K w.params mg "MOST_FACTOR" (.int 64) from (gl_int X G c.t.d 51 rfl))
 (all_cons (show GlF K w.params mg "MOST_NUMBER" (.int 1000000) from (gl_int X G c.t.d 52 rfl))
 (all_cons (show GlF K w.params mg "FORMS" (.dct ["num", "name", "add", "sub", "mul", "div", "rest", "if", "let", "call", "times", "fail", "less", "same", "not", "both", "either", "in"] [.str "n", .str "x", .str "ee", .str "ee", .str "fe", .str "eg", .str "eg", .str "tee", .str "xee", .str "xE", .str "fxee", .str "x", .str "ee", .str "ee", .str "t", .str "tt", .str "tt", .str "sE"]) from (gl_dct X G c.t 53 rfl 0 rfl rfl m2))
 (all_cons (show GlF K w.params mg "TESTS" (.tup [.str "less", .str "same", .str "not", .str "both", .str "either", .str "in"]) from (gl_tup X G c.t.d 54 rfl rfl m3))
 (all_cons (show GlF K w.params mg "MOST_PARTS" (.int 200) from (gl_int X G c.t.d 55 rfl))
 (all_cons (show GlF K w.params mg "MOST_WITHIN" (.int 30) from (gl_int X G c.t.d 56 rfl))
 all_nil)))))))))))))
theorem facts (X : K.In h) (G : h.Ns mainGlobals mg) {f : Addr} (hfa : mg ("law" : Str) = some (.ref f)) (c : He.SaysX fa fn ts [] ex w h K) : ∃ fd : FuncData, (∀ (s : Shared) (v : Value), BindsTo s fd ⟨[v], []⟩ [("script", v)]) ∧
    ∀ base : Heap, K.In base → base.Ns mainGlobals mg → FnOk PySem.Challenge.rw_justwhere_k01_whole_expressions_and_test.prog w K mg base (L2.CX PySem.Challenge.rw_justwhere_k01_whole_expressions_and_test.prog w) 60 f fd ["script"] (spLaw (K, w.params) tb 60 Flaw) := by
  obtain ⟨a, fd, hF, hm, hb, _⟩ := (fns X G c (Flaw, .df dlaw) (lkN_mem (n := Flaw) rfl)).ex
  have e : a = f := by
    have hm : mg ("law" : Str) = some (.ref a) := hm
    rw [hfa] at hm; cases hm; rfl
  subst e
  obtain ⟨oc, od, kV, doc, pm, an, cdv, ct, osl, rfl, lk, hcd⟩ := hF.ex
  refine ⟨_, fun s v => (.of_eq (bnd_law kV doc pm an cdv ct [v] rfl)), fun base _ _ => ?_⟩
  have := law_ok (P := PySem.Challenge.rw_justwhere_k01_whole_expressions_and_test.prog) (w := w) (base := base) (k := 60) oks (fns X G c) (frees X G c) (gls X G c) (lawI := Flaw) (e := .df dlaw) rfl rfl hF
  rw [tb_eq] at this
  exact this
end
theorem pure (ns : List Int) (hl : ns.length ≤ 63) (_ : ∀ z ∈ ns, Builtin.Int.intBits z ≤ 1048576) : ∃ m w', run tb m 60 LL.Flaw [.scr ns] [] = .ok (.bl true, w') := k01_pure ns hl
end K_k01
open PySem PySem.W PySem.Calls PyProof.Rows
set_option maxRecDepth 100000 in
set_option maxHeartbeats 0 in
theorem PySem.Challenge.cw_justwhere_k01_whole_expressions_and_test_holds : PySem.Challenge.rw_justwhere_k01_whole_expressions_and_test.Holds := by
  w_on; o_law
  refine HandSHeadRun.head_any (r := OpenLaw.row PySem.Challenge.rw_justwhere_k01_whole_expressions_and_test) (q := view (OpenLaw.row PySem.Challenge.rw_justwhere_k01_whole_expressions_and_test).prog [48]) (H := K_k01.hk) (ob := K_k01.ob) (M := 6000) (loose := K_k01.loose) (d := HandSHeadRun.topDef (OpenLaw.row PySem.Challenge.rw_justwhere_k01_whole_expressions_and_test).prog 48) (kwd := []) K_k01.ob_eq
    (by kernel_rfl) (fun s => by kernel_rfl) K_k01.hrun (by kernel_rfl) (by kernel_rfl) (by kernel_rfl) (by rfl) (by first | assumption | decide +kernel) (by decide +kernel) ⟨rfl, rfl, rfl, rfl, rfl, by decide +kernel⟩ ?hw ?hc
  case hw => w_witness2
  case hc =>
    refine LL.walk_ofEB (l := PySem.Challenge.rw_justwhere_k01_whole_expressions_and_test) (n := 63) (k := 60) (x := "script") (CX := fun w => L2.CX PySem.Challenge.rw_justwhere_k01_whole_expressions_and_test.prog w) rfl (by decide) (by kernel_rfl) ⟨rfl, by decide, by decide⟩ ?F (fun w H s e s' h => LL.cx_none h)
    intro w mg fa h Y G hmg0
    obtain ⟨K, KX, c⟩ := Y
    have hmg : mg ("law" : PySem.Str) = some (.ref fa) := by
      have e : (HandSHeadRun.topDef (OpenLaw.row PySem.Challenge.rw_justwhere_k01_whole_expressions_and_test).prog 48).name = ("law" : PySem.Str) := by kernel_rfl
      rw [← e]
      exact hmg0
    obtain ⟨fd, hb, hF⟩ := K_k01.facts KX G hmg c
    exact ⟨K, fd, LL.spLaw (K, w.params) K_k01.tb 60 LL.Flaw, KX, hb, fun H a ns hl hbits _ hS => LL.law_sp hS (K_k01.pure ns hl hbits), hF⟩
