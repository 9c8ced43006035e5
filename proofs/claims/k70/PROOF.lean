import PyProof.Rows.All
import Wide.All
import OpenK.AllK
import Wide.FinOn
import HandS.ForMost
import HandS.ForExc
import HandS.CallSlots
import HandS.Deep
import HandS.TupAny
import HandS.Codes
import HandS.Style
import HandS.Wide
import HandS.StrMore
import HandS.StrSplit
import KE.KeyNested
import KE.KDictKeyed
import HandS.Flow
import HandS.HeadWalk
import HandS.Defaults
import HandS.IsInst
import HandS.More
import HandS.WordsDict
import HandS.Small
import KE.KStateDown
import HandS.Words
import HandS.WordsExc
import HandS.Head0
import HandS.Head1
import HandS.Head2
import HandS.HeadEnd
import HandS.HeadHook1
import HandS.HeadHook2
import PySem.Challenge.RW_boundstone_k70_requests_and_answers
set_option Elab.async false
set_option linter.all false
set_option maxRecDepth 100000
/-! Bs1: plain data D, the store of objects, results, and how they stand in the abstract heap. -/
namespace Bs
open PySem PySem.Spec L2

/-- a value: scr is the script (a list of ints that is only read); ref n the n-th object of the store -/
inductive D where
  | non | bl (b : Bool) | int (i : Int) | str (x : List Nat) | tup (xs : List D) | ref (n : Nat) | scr (ns : List Int)
  deriving Inhabited

abbrev Nm := List Nat
/-- an object: a list; a dict (lk: a loop walks it), its keys ints and texts; a dict whose keys are tuples; an instance; an exception that is caught -/
inductive O where
  | lst (xs : List D)
  | dic (lk : Bool) (kvs : List (D × D))
  | dit (kvs : List (D × D))
  | ins (c : Nat) (fs : List (Nm × D))
  | xcp (c : Nat) (fs : List (Nm × D))
  | set (xs : List D)
  deriving Inhabited

abbrev Store := List O
inductive Res (α : Type) where
  | ok (a : α) (S : Store)
  | exc (c : Nat) (fs : List (Nm × D)) (S : Store)
  | stuck
def Res.bind {α β : Type} (r : Res α) (f : α → Store → Res β) : Res β := match r with
  | .ok a S => f a S
  | .exc c fs S => .exc c fs S
  | .stuck => .stuck
@[simp] theorem bind_ok {α β : Type} (a : α) (S : Store) (f : α → Store → Res β) : (Res.ok a S).bind f = f a S := rfl
@[simp] theorem bind_exc {α β : Type} (c : Nat) (fs : List (Nm × D)) (S : Store) (f : α → Store → Res β) : (Res.exc c fs S : Res α).bind f = .exc c fs S := rfl
@[simp] theorem bind_stuck {α β : Type} (f : α → Store → Res β) : (Res.stuck : Res α).bind f = .stuck := rfl
theorem Res.bind_assoc {α β γ : Type} (r : Res α) (f : α → Store → Res β) (g : β → Store → Res γ) : (r.bind f).bind g = r.bind fun a S => (f a S).bind g := by
  cases r <;> rfl

/-- what is fixed for the whole law: the written part, the script, the classes' addresses -/
structure Wd where
  P : Program
  wd : World
  K : PySem.W.Frag
  a0 : Addr
  ns0 : List Int
  cl : Nat → Addr
  hsz : ns0.length ≤ sizeLine

def S2 (x : List Nat) : Str := ⟨x.toArray⟩
def okStr (x : List Nat) : Prop := x.length ≤ sizeLine ∧ ∀ c ∈ x, c < 0x110000

/-- a tuple that never changes -/
def Tup (K : PySem.W.Frag) (H : Hp) (a : Addr) (xs : List V) : Prop :=
  H a = some (.tup xs) ∨
    ∃ (o : Obj) (its : Array Value) (n : Nat), K.lookup a = some o ∧ o.cls = .type "tuple" ∧ o.data = .seq its n ∧ its.size ≤ sizeLine ∧ Vals xs its.toList
theorem Tup.sq {K : PySem.W.Frag} {H : Hp} {a : Addr} {xs : List V} (h : Tup K H a xs) : SqT K H a xs := h.elim (fun e => .inl (.inl e)) .inr

section
variable (w : Wd) (H : Hp) (mu : List Addr)
mutual
inductive RelD : D → V → Prop
  | non : RelD .non .non
  | bl {b : Bool} : RelD (.bl b) (.bl b)
  | int {i : Int} : RelD (.int i) (.int i)
  | str {x : List Nat} : okStr x → RelD (.str x) (.str (S2 x))
  | tup {a : Addr} {vs : List V} {ds : List D} : Tup w.K H a vs → RelDs ds vs → ds.length ≤ sizeLine → RelD (.tup ds) (.ref a)
  | ref {n : Nat} {a : Addr} : mu[n]? = some a → RelD (.ref n) (.ref a)
  | scr : RelD (.scr w.ns0) (.ref w.a0)
inductive RelDs : List D → List V → Prop
  | nil : RelDs [] []
  | cons {d : D} {ds : List D} {v : V} {vs : List V} : RelD d v → RelDs ds vs → RelDs (d :: ds) (v :: vs)
end
end

/-- what a step keeps: tuples, and what is locked -/
structure Keep (H H' : Hp) : Prop where
  tup : ∀ a xs, H a = some (.tup xs) → H' a = some (.tup xs)
  frz : ∀ a o u, H a = some (.frz o u) → H' a = some (.frz o u)
theorem Keep.refl {H : Hp} : Keep H H := ⟨fun _ _ h => h, fun _ _ _ h => h⟩
theorem Keep.trans {H H1 H2 : Hp} (a : Keep H H1) (b : Keep H1 H2) : Keep H H2 := ⟨fun c xs h => b.tup c xs (a.tup c xs h), fun c o u h => b.frz c o u (a.frz c o u h)⟩
theorem Keep.new {H : Hp} {p : Addr} {o : HO} (h : H p = none) : Keep H (upd H p o) :=
  ⟨fun a xs e => by rw [upd_ne (ne_of_none e h)]; exact e, fun a ob u e => by rw [upd_ne (ne_of_none e h)]; exact e⟩
theorem Keep.put {H : Hp} {p : Addr} {o u : HO} (h : H p = some u) (nt : ∀ xs, u ≠ .tup xs) (nf : ∀ ob v, u ≠ .frz ob v) : Keep H (upd H p o) :=
  ⟨fun a xs e => by rw [upd_ne (fun z => nt xs (by subst z; rw [h] at e; exact Option.some.inj e))]; exact e,
   fun a ob v e => by rw [upd_ne (fun z => nf ob v (by subst z; rw [h] at e; exact Option.some.inj e))]; exact e⟩

theorem get_prefix {mu mu' : List Addr} {n : Nat} {a : Addr} (p : mu <+: mu') (h : mu[n]? = some a) : mu'[n]? = some a := by
  obtain ⟨r, rfl⟩ := p
  rw [List.getElem?_append_left (List.getElem?_eq_some_iff.mp h).1]
  exact h

section
variable {w : Wd} {H H' : Hp} {mu mu' : List Addr}
theorem Tup.keep {K : PySem.W.Frag} {a : Addr} {xs : List V} (k : Keep H H') (h : Tup K H a xs) : Tup K H' a xs := h.elim (fun e => .inl (k.tup _ _ e)) .inr
mutual
theorem RelD.mono (k : Keep H H') (p : mu <+: mu') : ∀ {d : D} {v : V}, RelD w H mu d v → RelD w H' mu' d v
  | _, _, .non => .non
  | _, _, .bl => .bl
  | _, _, .int => .int
  | _, _, .str h => .str h
  | _, _, .tup t r l => .tup (t.keep k) (RelDs.mono k p r) l
  | _, _, .ref e => .ref (get_prefix p e)
  | _, _, .scr => .scr
theorem RelDs.mono (k : Keep H H') (p : mu <+: mu') : ∀ {ds : List D} {vs : List V}, RelDs w H mu ds vs → RelDs w H' mu' ds vs
  | _, _, .nil => .nil
  | _, _, .cons a b => .cons (RelD.mono k p a) (RelDs.mono k p b)
end
theorem RelDs.length : ∀ {ds : List D} {vs : List V}, RelDs w H mu ds vs → ds.length = vs.length
  | _, _, .nil => rfl
  | _, _, .cons _ b => by simp [RelDs.length b]
theorem RelDs.get : ∀ {ds : List D} {vs : List V} {i : Nat} {d : D}, RelDs w H mu ds vs → ds[i]? = some d → ∃ v, vs[i]? = some v ∧ RelD w H mu d v
  | _, _, _, _, .nil, e => by simp at e
  | _, _, 0, _, .cons a _, e => by simp at e; subst e; exact ⟨_, rfl, a⟩
  | _, _, i + 1, d, .cons _ b, e => by
    obtain ⟨v, h1, h2⟩ := RelDs.get (i := i) (d := d) b (by simpa using e)
    exact ⟨v, by simpa using h1, h2⟩
theorem RelDs.get' : ∀ {ds : List D} {vs : List V} {i : Nat} {v : V}, RelDs w H mu ds vs → vs[i]? = some v → ∃ d, ds[i]? = some d ∧ RelD w H mu d v
  | _, _, _, _, .nil, e => by simp at e
  | _, _, 0, _, .cons a _, e => by simp at e; subst e; exact ⟨_, rfl, a⟩
  | _, _, i + 1, d, .cons _ b, e => by
    obtain ⟨v, h1, h2⟩ := RelDs.get' (i := i) (v := d) b (by simpa using e)
    exact ⟨v, by simpa using h1, h2⟩
theorem RelDs.append : ∀ {ds es : List D} {vs ws : List V}, RelDs w H mu ds vs → RelDs w H mu es ws → RelDs w H mu (ds ++ es) (vs ++ ws)
  | _, _, _, _, .nil, h => h
  | _, _, _, _, .cons a b, h => .cons a (RelDs.append b h)
theorem RelDs.take : ∀ {ds : List D} {vs : List V} (n : Nat), RelDs w H mu ds vs → RelDs w H mu (ds.take n) (vs.take n)
  | _, _, 0, _ => .nil
  | _, _, _ + 1, .nil => .nil
  | _, _, n + 1, .cons a b => .cons a (RelDs.take n b)
theorem RelDs.drop : ∀ {ds : List D} {vs : List V} (n : Nat), RelDs w H mu ds vs → RelDs w H mu (ds.drop n) (vs.drop n)
  | _, _, 0, h => h
  | _, _, _ + 1, .nil => .nil
  | _, _, n + 1, .cons a b => RelDs.drop n b
theorem RelDs.set {d : D} {v : V} (r : RelD w H mu d v) : ∀ {ds : List D} {vs : List V} (n : Nat), RelDs w H mu ds vs → RelDs w H mu (ds.set n d) (vs.set n v)
  | _, _, _, .nil => .nil
  | _, _, 0, .cons _ b => .cons r b
  | _, _, n + 1, .cons a b => .cons a (RelDs.set r n b)
theorem RelDs.dropLast : ∀ {ds : List D} {vs : List V}, RelDs w H mu ds vs → RelDs w H mu ds.dropLast vs.dropLast
  | _, _, .nil => .nil
  | _, _, .cons a .nil => .nil
  | _, _, .cons a (.cons b c) => .cons a (RelDs.dropLast (.cons b c))
theorem RelDs.erase : ∀ {ds : List D} {vs : List V} (n : Nat), RelDs w H mu ds vs → RelDs w H mu (ds.eraseIdx n) (vs.eraseIdx n)
  | _, _, _, .nil => .nil
  | _, _, 0, .cons _ b => b
  | _, _, n + 1, .cons a b => .cons a (RelDs.erase n b)
theorem RelDs.rev {ds : List D} {vs : List V} (r : RelDs w H mu ds vs) : RelDs w H mu ds.reverse vs.reverse := by
  induction ds generalizing vs with
  | nil => cases r; exact .nil
  | cons d ds ih => cases r with | cons a b => rw [List.reverse_cons, List.reverse_cons]; exact (ih b).append (.cons a .nil)
end

/-- names and values in one order -/
inductive RelF (w : Wd) (H : Hp) (mu : List Addr) : List (Nm × D) → List (Str × V) → Prop
  | nil : RelF w H mu [] []
  | cons {x : Nm} {d : D} {v : V} {fs gs} : RelD w H mu d v → RelF w H mu fs gs → RelF w H mu ((x, d) :: fs) ((S2 x, v) :: gs)
/-- a key of a dict -/
inductive RelK : D → Key → Prop
  | int {i : Int} : RelK (.int i) (.inl i)
  | str {x : List Nat} : okStr x → RelK (.str x) (.inr (S2 x))
inductive RelKV (w : Wd) (H : Hp) (mu : List Addr) : List (D × D) → List (Key × V) → Prop
  | nil : RelKV w H mu [] []
  | cons {k : D} {d : D} {q : Key} {v : V} {fs gs} : RelK k q → RelD w H mu d v → RelKV w H mu fs gs → RelKV w H mu ((k, d) :: fs) ((q, v) :: gs)
section
variable {w : Wd} {H H' : Hp} {mu mu' : List Addr}
theorem RelF.mono (k : Keep H H') (p : mu <+: mu') {fs gs} (h : RelF w H mu fs gs) : RelF w H' mu' fs gs := by
  induction h with
  | nil => exact .nil
  | cons a _ ih => exact .cons (a.mono k p) ih
theorem RelKV.mono (k : Keep H H') (p : mu <+: mu') {fs gs} (h : RelKV w H mu fs gs) : RelKV w H' mu' fs gs := by
  induction h with
  | nil => exact .nil
  | cons z a _ ih => exact .cons z (a.mono k p) ih
end

/-- a key that is a tuple of ints, texts, None -/
def nk1 : D → Option NestedKey
  | .non => some .none
  | .int i => some (.num i)
  | .str x => some (.text (S2 x))
  | _ => none
def nks : List D → Option (List NestedKey)
  | [] => some []
  | d :: ds => match nk1 d, nks ds with
    | some k, some ks => some (k :: ks)
    | _, _ => none
def nk : D → Option NestedKey
  | .tup ds => (nks ds).map .tup
  | _ => none
/-- the entries of such a dict: key, the key's address, value -/
abbrev Row := NestedKey × Addr × V
inductive RelR (w : Wd) (H : Hp) (mu : List Addr) : List (D × D) → List Row → Prop
  | nil : RelR w H mu [] []
  | cons {k d : D} {q : NestedKey} {b : Addr} {v : V} {fs gs} : nk k = some q → RelD w H mu k (.ref b) → RelD w H mu d v → RelR w H mu fs gs → RelR w H mu ((k, d) :: fs) ((q, b, v) :: gs)
theorem RelR.mono {w : Wd} {H H' : Hp} {mu mu' : List Addr} (k : Keep H H') (p : mu <+: mu') {fs gs} (h : RelR w H mu fs gs) : RelR w H' mu' fs gs := by
  induction h with
  | nil => exact .nil
  | cons e a b _ ih => exact .cons e (a.mono k p) (b.mono k p) ih
def rowRel (r : Row) (x : NestedKey × Addr × Value) : Prop := r.1 = x.1 ∧ r.2.1 = x.2.1 ∧ RelV r.2.2 x.2.2
def tdO (w : Wd) (a : Addr) (rows : List Row) : HO := .ext fun h => ∃ xs : List (NestedKey × Addr × Value), Paired rowRel rows xs ∧
  ∃ o es ep, h.get? a = some o ∧ o.ExactDict ∧ o.data = .dict es ep ∧ es.toList = xs.map (entryOfKey (nestedKind w.P w.wd))
/-- how an object stands at an address -/
def RelO (w : Wd) (H : Hp) (mu : List Addr) (a : Addr) : O → Prop
  | .lst xs => ∃ vs, RelDs w H mu xs vs ∧ H a = some (.lst vs) ∧ xs.length ≤ sizeLine
  | .dic lk kvs => ∃ gs, RelKV w H mu kvs gs ∧ (gs.map (·.1)).Nodup ∧ kvs.length ≤ sizeLine ∧ if lk then ∃ ob, H a = some (.frz ob (.dK gs)) else H a = some (.dK gs)
  | .dit kvs => ∃ rows, RelR w H mu kvs rows ∧ (rows.map (·.1)).Nodup ∧ kvs.length ≤ sizeLine ∧ (a == sysModules) = false ∧ H a = some (tdO w a rows)
  | .ins c fs => ∃ dx gs, RelF w H mu fs gs ∧ H a = some (.ins (w.cl c) dx gs) ∧ H dx = some (.own a)
  | .xcp c fs => False
  | .set xs => False

/-- the script stands as it stood, apart from the store -/
def Scr (w : Wd) (H : Hp) (mu : List Addr) : Prop :=
  (Rd H w.a0 (.lst (w.ns0.map V.int)) ∧ w.a0 ∉ mu) ∨
    ∃ (o : Obj) (its : Array Value) (n : Nat), w.K.lookup w.a0 = some o ∧ o.cls = .type "list" ∧ o.dict = none ∧ o.data = .seq its n ∧ its.size ≤ sizeLine ∧ Vals (w.ns0.map V.int) its.toList
theorem Scr.sq {w : Wd} {H : Hp} {mu : List Addr} (h : Scr w H mu) : SqL w.K H w.a0 (w.ns0.map V.int) := h.elim (fun h => .inl h.1) .inr

structure RelS (w : Wd) (H : Hp) (mu : List Addr) (S : Store) : Prop where
  len : mu.length = S.length
  nd : mu.Nodup
  obj : ∀ (i : Nat) (o : O) (a : Addr), S[i]? = some o → mu[i]? = some a → RelO w H mu a o
  scr : Scr w H mu

section
variable {w : Wd} {H H' : Hp} {mu mu' : List Addr} {S : Store}
theorem RelS.at (r : RelS w H mu S) {n : Nat} {o : O} (h : S[n]? = some o) : ∃ a, mu[n]? = some a ∧ RelO w H mu a o := by
  have hl : n < mu.length := by rw [r.len]; exact (List.getElem?_eq_some_iff.mp h).1
  exact ⟨mu[n], List.getElem?_eq_getElem hl, r.obj n o _ h (List.getElem?_eq_getElem hl)⟩
theorem RelO.held {a : Addr} {o : O} (h : RelO w H mu a o) : ∃ u, H a = some u := by
  cases o with
  | lst xs => obtain ⟨_, _, e, _⟩ := h; exact ⟨_, e⟩
  | dic lk kvs =>
    obtain ⟨gs, _, _, _, e⟩ := h
    cases lk with
    | true => obtain ⟨ob, e⟩ := e; exact ⟨_, e⟩
    | false => exact ⟨_, e⟩
  | dit kvs => obtain ⟨_, _, _, _, _, e⟩ := h; exact ⟨_, e⟩
  | ins c fs => obtain ⟨_, _, _, e, _⟩ := h; exact ⟨_, e⟩
  | xcp c fs => exact h.elim
  | set xs => exact h.elim
theorem RelS.held (r : RelS w H mu S) {a : Addr} (h : a ∈ mu) : ∃ u, H a = some u := by
  obtain ⟨i, hi⟩ := List.mem_iff_getElem?.mp h
  have hl : i < S.length := by rw [← r.len]; exact (List.getElem?_eq_some_iff.mp hi).1
  exact RelO.held (r.obj i _ a (List.getElem?_eq_getElem hl) hi)
theorem RelS.fresh (r : RelS w H mu S) {p : Addr} (h : H p = none) : p ∉ mu := fun hm => by
  obtain ⟨u, e⟩ := r.held hm
  rw [h] at e; cases e
/-- an own dict is not in the store -/
theorem RelS.notOwn (r : RelS w H mu S) {x y : Addr} (h : H x = some (.own y)) : x ∉ mu := fun hm => by
  obtain ⟨i, hi⟩ := List.mem_iff_getElem?.mp hm
  have hl : i < S.length := by rw [← r.len]; exact (List.getElem?_eq_some_iff.mp hi).1
  have q := r.obj i _ x (List.getElem?_eq_getElem hl) hi
  generalize S[i] = o at q
  cases o with
  | lst xs => obtain ⟨_, _, e, _⟩ := q; rw [h] at e; cases e
  | dic lk kvs =>
    obtain ⟨gs, _, _, _, e⟩ := q
    cases lk with
    | true => obtain ⟨ob, e⟩ := e; rw [h] at e; cases e
    | false => rw [if_neg (by decide), h] at e; cases e
  | dit kvs => obtain ⟨_, _, _, _, _, e⟩ := q; rw [h] at e; cases e
  | ins c fs => obtain ⟨_, _, _, e, _⟩ := q; rw [h] at e; cases e
  | xcp c fs => exact q.elim
  | set xs => exact q.elim
/-- an object's standing, carried over -/
theorem RelO.mono (k : Keep H H') (p : mu <+: mu') {a : Addr} {o : O} (h : RelO w H mu a o) (ha : H' a = H a) (ho : ∀ x, H x = some (.own a) → H' x = some (.own a)) : RelO w H' mu' a o := by
  cases o with
  | lst xs => obtain ⟨vs, r, e, l⟩ := h; exact ⟨vs, r.mono k p, ha.trans e, l⟩
  | dic lk kvs =>
    obtain ⟨gs, r, n, l, e⟩ := h
    refine ⟨gs, r.mono k p, n, l, ?_⟩
    cases lk with
    | true => obtain ⟨ob, e⟩ := e; exact ⟨ob, ha.trans e⟩
    | false => exact ha.trans e
  | dit kvs => obtain ⟨rows, r, n, l, sm, e⟩ := h; exact ⟨rows, r.mono k p, n, l, sm, ha.trans e⟩
  | ins c fs => obtain ⟨dx, gs, r, e, e2⟩ := h; exact ⟨dx, gs, r.mono k p, ha.trans e, ho _ e2⟩
  | xcp c fs => exact h.elim
  | set xs => exact h.elim
/-- a new object that is no object of the store: a tuple -/
theorem RelS.other (r : RelS w H mu S) {p : Addr} {o : HO} (h : H p = none) : RelS w (upd H p o) mu S where
  len := r.len
  nd := r.nd
  obj := fun i ob a e1 e2 => by
    have q := r.obj i ob a e1 e2
    obtain ⟨u, eu⟩ := RelO.held q
    exact q.mono (Keep.new h) (List.prefix_refl _) (upd_ne (ne_of_none eu h)) fun x e => by rw [upd_ne (ne_of_none e h)]; exact e
  scr := by
    rcases r.scr with ⟨h1, h2⟩ | h1
    · refine .inl ⟨?_, h2⟩
      rcases h1 with e | ⟨ob, e⟩
      · exact .inl (by rw [upd_ne (ne_of_none e h)]; exact e)
      · exact .inr ⟨ob, by rw [upd_ne (ne_of_none e h)]; exact e⟩
    · exact .inr h1
/-- a new object of the store -/
theorem RelS.new (r : RelS w H mu S) {p : Addr} {u : HO} {o : O} (h : H p = none) (ho : RelO w (upd H p u) (mu ++ [p]) p o) : RelS w (upd H p u) (mu ++ [p]) (S ++ [o]) where
  len := by simp [r.len]
  nd := List.nodup_append.mpr ⟨r.nd, by simp, fun a ha b hb => by
    have : b = p := by simpa using hb
    subst this
    intro e; subst e; exact r.fresh h ha⟩
  obj := fun i ob a e1 e2 => by
    by_cases hi : i < S.length
    · rw [List.getElem?_append_left hi] at e1
      rw [List.getElem?_append_left (by rw [r.len]; exact hi)] at e2
      have q := r.obj i ob a e1 e2
      obtain ⟨v, ev⟩ := RelO.held q
      exact q.mono (Keep.new h) (List.prefix_append _ _) (upd_ne (ne_of_none ev h)) fun x e => by rw [upd_ne (ne_of_none e h)]; exact e
    · have hi' : S.length ≤ i := Nat.le_of_not_lt hi
      rw [List.getElem?_append_right hi'] at e1
      rw [List.getElem?_append_right (by rw [r.len]; exact hi')] at e2
      have z : i - S.length = 0 := by
        rcases Nat.eq_zero_or_pos (i - S.length) with z | z
        · exact z
        · have e3 := (List.getElem?_eq_some_iff.mp e1).1
          simp at e3; omega
      rw [z] at e1
      rw [r.len, z] at e2
      simp at e1 e2
      subst e1; subst e2
      exact ho
  scr := by
    rcases r.scr with ⟨h1, h2⟩ | h1
    · refine .inl ⟨?_, ?_⟩
      · rcases h1 with e | ⟨ob, e⟩
        · exact .inl (by rw [upd_ne (ne_of_none e h)]; exact e)
        · exact .inr ⟨ob, by rw [upd_ne (ne_of_none e h)]; exact e⟩
      · intro hm
        rcases List.mem_append.mp hm with hm | hm
        · exact h2 hm
        · have e : w.a0 = p := by simpa using hm
          rcases h1 with q | ⟨ob, q⟩
          · rw [e, h] at q; cases q
          · rw [e, h] at q; cases q
    · exact .inr h1
/-- an object of the store is written -/
theorem RelS.put (r : RelS w H mu S) {n : Nat} {a : Addr} {u v : HO} {o : O} (ha : mu[n]? = some a) (hu : H a = some u) (nt : ∀ xs, u ≠ .tup xs) (nf : ∀ ob v, u ≠ .frz ob v) (no : ∀ y, u ≠ .own y)
    (ho : RelO w (upd H a v) mu a o) : RelS w (upd H a v) mu (S.set n o) where
  len := by simp [r.len]
  nd := r.nd
  obj := fun i ob b e1 e2 => by
    have hn : n < S.length := by rw [← r.len]; exact (List.getElem?_eq_some_iff.mp ha).1
    by_cases hi : i = n
    · subst hi
      rw [List.getElem?_set_self hn] at e1
      rw [ha] at e2
      cases e1; cases e2
      exact ho
    · rw [List.getElem?_set_ne (Ne.symm hi)] at e1
      have hb : b ≠ a := by
        intro e; subst e
        obtain ⟨h1, g1⟩ := List.getElem?_eq_some_iff.mp e2
        obtain ⟨h2, g2⟩ := List.getElem?_eq_some_iff.mp ha
        exact hi ((List.getElem_inj r.nd).mp (g1.trans g2.symm))
      have q := r.obj i ob b e1 e2
      refine q.mono (Keep.put hu nt nf) (List.prefix_refl _) (upd_ne hb) fun x e => ?_
      rw [upd_ne]
      · exact e
      · intro z; subst z; rw [hu] at e; exact no b (Option.some.inj e)
  scr := by
    rcases r.scr with ⟨h1, h2⟩ | h1
    · refine .inl ⟨?_, h2⟩
      have hb : w.a0 ≠ a := fun e => h2 (by rw [e]; exact List.mem_of_getElem? ha)
      rcases h1 with e | ⟨ob, e⟩
      · exact .inl (by rw [upd_ne hb]; exact e)
      · exact .inr ⟨ob, by rw [upd_ne hb]; exact e⟩
    · exact .inr h1
end
end Bs

set_option Elab.async false
set_option linter.all false
set_option maxRecDepth 100000
set_option maxHeartbeats 1000000
/-! Bs2: a program over data as a reading; expressions. -/
namespace Bs
open PySem PySem.Spec L2

abbrev En := List (Option D)
structure RelE (w : Wd) (H : Hp) (mu : List Addr) (rho : En) (σ : St) : Prop where
  len : rho.length = σ.length
  get : ∀ (i : Nat) (d : D), rho[i]? = some (some d) → ∃ v, σ[i]? = some (some v) ∧ RelD w H mu d v
theorem RelE.mono {w : Wd} {H H' : Hp} {mu mu' : List Addr} {rho : En} {σ : St} (k : Keep H H') (p : mu <+: mu') (r : RelE w H mu rho σ) : RelE w H' mu' rho σ :=
  ⟨r.len, fun i d e => let ⟨v, h1, h2⟩ := r.get i d e; ⟨v, h1, h2.mono k p⟩⟩
theorem RelE.set {w : Wd} {H : Hp} {mu : List Addr} {rho : En} {σ : St} {i : Nat} {d : D} {v : V} (r : RelE w H mu rho σ) (rd : RelD w H mu d v) : RelE w H mu (rho.set i (some d)) (σ.set i (some v)) := by
  refine ⟨by simp [r.len], fun j e h => ?_⟩
  by_cases hj : i = j
  · subst hj
    have hl : i < rho.length := by have := (List.getElem?_eq_some_iff.mp h).1; simpa using this
    rw [List.getElem?_set_self hl] at h
    cases h
    exact ⟨v, List.getElem?_set_self (by rw [← r.len]; exact hl), rd⟩
  · rw [List.getElem?_set_ne hj] at h
    obtain ⟨u, h1, h2⟩ := r.get j e h
    exact ⟨u, by rw [List.getElem?_set_ne hj]; exact h1, h2⟩

/-- the fields of an exception in the air -/
def RelX (w : Wd) (H : Hp) (mu : List Addr) (fs : List (Nm × D)) (d : Option Addr) : Prop :=
  (fs = [] ∧ d = none) ∨ ∃ dx gs, d = some dx ∧ H dx = some (.xd gs) ∧ RelF w H mu fs gs

section
variable (w : Wd) {α β : Type} (Rel : Hp → List Addr → α → β → Prop) (W : WX) (σ : St) (H : Hp) (mu : List Addr)
def Post (r : Res α) (Q : β → Hp → Prop) : Prop :=
  match r with
  | .ok a S' => ∀ b H' mu', mu <+: mu' → RelS w H' mu' S' → Rel H' mu' a b → Keep H H' → Q b H'
  | .exc c fs S' => ∀ d H' mu', mu <+: mu' → RelS w H' mu' S' → RelX w H' mu' fs d → Keep H H' → W (.ref (w.cl c)) d σ H'
  | .stuck => False
end
section
variable {w : Wd} {α β γ δ : Type} {Rel : Hp → List Addr → α → β → Prop} {RelC : Hp → List Addr → γ → δ → Prop} {W : WX} {σ : St} {H H1 : Hp} {mu mu1 : List Addr}
theorem Post.rebase {r : Res α} {Q : β → Hp → Prop} (p : mu <+: mu1) (k : Keep H H1) (h : Post w Rel W σ H mu r Q) : Post w Rel W σ H1 mu1 r Q := by
  cases r with
  | ok a S => exact fun b H' mu' p' rs ra k' => h b H' mu' (p.trans p') rs ra (k.trans k')
  | exc c fs S => exact fun d H' mu' p' rs rx k' => h d H' mu' (p.trans p') rs rx (k.trans k')
  | stuck => exact h
theorem Post.imp {r : Res α} {Q Q' : β → Hp → Prop} (h : Post w Rel W σ H mu r Q) (q : ∀ b H', Q b H' → Q' b H') : Post w Rel W σ H mu r Q' := by
  cases r with
  | ok a S => exact fun b H' mu' p' rs ra k' => q _ _ (h b H' mu' p' rs ra k')
  | exc c fs S => exact h
  | stuck => exact h
/-- THE RULE: first r, then f -/
theorem Post.bind {r : Res α} {f : α → Store → Res γ} {Q : δ → Hp → Prop} (h : Post w RelC W σ H mu (r.bind f) Q) :
    Post w Rel W σ H mu r fun b H1 => ∃ a S1 mu1, mu <+: mu1 ∧ RelS w H1 mu1 S1 ∧ Rel H1 mu1 a b ∧ Keep H H1 ∧ Post w RelC W σ H1 mu1 (f a S1) Q := by
  cases r with
  | ok a S => exact fun b H' mu' p rs ra k => ⟨a, S, mu', p, rs, ra, k, Post.rebase p k h⟩
  | exc c fs S => exact h
  | stuck => exact h
theorem Post.ok {a : α} {b : β} {S : Store} {Q : β → Hp → Prop} (h : Post w Rel W σ H mu (.ok a S) Q) (rs : RelS w H mu S) (ra : Rel H mu a b) : Q b H := h b H mu (List.prefix_refl _) rs ra .refl
end

abbrev Mx (α : Type) := En → Store → Res α
/-- a program over data, as a reading -/
def liftG {α β : Type} (w : Wd) (Rel : Hp → List Addr → α → β → Prop) (W : WX) (m : Mx α) : St → Hp → (β → Hp → Prop) → Prop := fun σ H Q =>
  ∃ rho S mu, RelE w H mu rho σ ∧ RelS w H mu S ∧ Post w Rel W σ H mu (m rho S) Q
abbrev relB : Hp → List Addr → Bool → Bool → Prop := fun _ _ a b => a = b
abbrev liftE (w : Wd) (W : WX) (m : Mx D) : TE := liftG w (RelD w) W m
abbrev liftT (w : Wd) (W : WX) (m : Mx Bool) : TT := liftG w relB W m
abbrev liftA (w : Wd) (W : WX) (m : Mx (List D)) : TA := liftG w (RelDs w) W m

theorem _root_.Bs.liftG.imp {α β : Type} {w : Wd} {Rel : Hp → List Addr → α → β → Prop} {W : WX} {m : Mx α} {σ : St} {H : Hp} {Q Q' : β → Hp → Prop} (h : liftG w Rel W m σ H Q) (q : ∀ v H', Q v H' → Q' v H') : liftG w Rel W m σ H Q' :=
  let ⟨rho, S, mu, re, rs, z⟩ := h; ⟨rho, S, mu, re, rs, z.imp q⟩
theorem PE.imp {X : Cx} {e : Expr} {t t' : TE} (h : PE X e t) (q : ∀ σ H Q, t' σ H Q → t σ H Q) : PE X e t' := ⟨fun pins s σ H Q I z => h.run pins s σ H Q I (q _ _ _ z)⟩
theorem PT.imp {X : Cx} {e : Expr} {t t' : TT} (h : PT X e t) (q : ∀ σ H Q, t' σ H Q → t σ H Q) : PT X e t' := ⟨fun pins s σ H Q I z => h.run pins s σ H Q I (q _ _ _ z)⟩
theorem PW.imp {X : Cx} {e : Expr} {t t' : TT} (h : PW X e t) (q : ∀ σ H Q, t' σ H Q → t σ H Q) : PW X e t' := ⟨fun wh pins s σ H Q I z => h.run wh pins s σ H Q I (q _ _ _ z)⟩
theorem PA.imp {X : Cx} {es : List Expr} {t t' : TA} (h : PA X es t) (q : ∀ σ H Q, t' σ H Q → t σ H Q) : PA X es t' := ⟨fun pos pins s σ H Q I z => h.run pos pins s σ H Q I (q _ _ _ z)⟩

section
variable {w : Wd} {X : Cx} {W : WX} {a b e : Expr} {ma mb : Mx D} {pos : Pos}

/-! ### names, constants -/
def evVar (i : Nat) : Mx D := fun rho S => match rho[i]? with
  | some (some d) => .ok d S
  | _ => .stuck
theorem pm_var {i : Nat} {x : Str} (hN : X.N[i]? = some x) (hv : Vis X.env.scope x) (hd : (x == ("__debug__" : Str)) = false) (hcd : (x == ("__classdict__" : Str)) = false) : PE X (.Name x pos) (liftE w W (evVar i)) := by
  refine PE.imp (pe_var hN hv hd hcd) fun σ H Q h => ?_
  obtain ⟨rho, S, mu, re, rs, h⟩ := h
  unfold evVar at h
  split at h
  · rename_i d e
    obtain ⟨v, h1, h2⟩ := re.get _ _ e
    exact ⟨v, h1, h.ok rs h2⟩
  · exact h.elim
def evC (d : D) : Mx D := fun _ S => .ok d S
theorem lift_c {d : D} {v : V} (r : ∀ H mu, RelD w H mu d v) : ∀ σ H Q, liftE w W (evC d) σ H Q → tC v σ H Q := fun σ H Q h => by
  obtain ⟨rho, S, mu, re, rs, h⟩ := h
  exact h.ok rs (r H mu)

/-! ### one value, then another -/
def ev1 {α β : Type} (m : Mx α) (f : α → Store → Res β) : Mx β := fun rho S => (m rho S).bind f
def ev2 {α β γ : Type} (m : Mx α) (n : Mx β) (f : α → β → Store → Res γ) : Mx γ := fun rho S => (m rho S).bind fun x S1 => (n rho S1).bind fun y S2 => f x y S2

section
variable {α β γ α' β' γ' : Type} {RA : Hp → List Addr → α → α' → Prop} {RB : Hp → List Addr → β → β' → Prop} {RC : Hp → List Addr → γ → γ' → Prop}
theorem lift_ev1 {m : Mx α} {f : α → Store → Res γ} {σ : St} {H : Hp} {Q : γ' → Hp → Prop} (h : liftG w RC W (ev1 m f) σ H Q) :
    liftG w RA W m σ H fun x H1 => ∃ d S1 mu1, RelS w H1 mu1 S1 ∧ RA H1 mu1 d x ∧ Post w RC W σ H1 mu1 (f d S1) Q := by
  obtain ⟨rho, S, mu, re, rs, h⟩ := h
  exact ⟨rho, S, mu, re, rs, (Post.bind (Rel := RA) h).imp fun b H1 ⟨d, S1, mu1, p, rs1, rd, k, q⟩ => ⟨d, S1, mu1, rs1, rd, q⟩⟩
theorem lift_ev2 (hm : ∀ {H H' : Hp} {mu mu' : List Addr} {d : α} {v : α'}, Keep H H' → mu <+: mu' → RA H mu d v → RA H' mu' d v) {m : Mx α} {n : Mx β} {f : α → β → Store → Res γ} {σ : St} {H : Hp} {Q : γ' → Hp → Prop} (h : liftG w RC W (ev2 m n f) σ H Q) :
    liftG w RA W m σ H fun x H1 => liftG w RB W n σ H1 fun y H2 => ∃ d1 d2 S2 mu2, RelS w H2 mu2 S2 ∧ RA H2 mu2 d1 x ∧ RB H2 mu2 d2 y ∧ Post w RC W σ H2 mu2 (f d1 d2 S2) Q := by
  obtain ⟨rho, S, mu, re, rs, h⟩ := h
  refine ⟨rho, S, mu, re, rs, (Post.bind (Rel := RA) h).imp fun b H1 ⟨d, S1, mu1, p, rs1, rd, k, q⟩ => ?_⟩
  exact ⟨rho, S1, mu1, re.mono k p, rs1, (Post.bind (Rel := RB) q).imp fun b2 H2 ⟨d2, S2, mu2, p2, rs2, rd2, k2, q2⟩ => ⟨d, d2, S2, mu2, rs2, hm k2 p2 rd, rd2, q2⟩⟩
end

/-! ### operators -/
/-- a rule by values serves an operation over data -/
def OpL (w : Wd) (r : R2) (f : D → D → Store → Res D) : Prop :=
  ∀ (W : WX) (σ : St) (H : Hp) (mu : List Addr) (S : Store) (x y : D) (v u : V) (Q : VK), RelS w H mu S → RelD w H mu x v → RelD w H mu y u → Post w (RelD w) W σ H mu (f x y S) Q → r v u H Q
theorem op2 {r : R2} {f : D → D → Store → Res D} (h : PE X e (tOp r (liftE w W ma) (liftE w W mb))) (o : OpL w r f) : PE X e (liftE w W (ev2 ma mb f)) := by
  refine PE.imp h fun σ H Q z => ?_
  have q := lift_ev2 (RA := RelD w) (RB := RelD w) (fun k p r => r.mono k p) z
  obtain ⟨rho, S, mu, re, rs, q⟩ := q
  refine ⟨rho, S, mu, re, rs, q.imp fun v H1 q => ?_⟩
  obtain ⟨rho, S, mu, re, rs, q⟩ := q
  exact ⟨rho, S, mu, re, rs, q.imp fun u H2 ⟨d1, d2, S2, mu2, rs2, r1, r2, q⟩ => o W σ H2 mu2 S2 d1 d2 v u Q rs2 r1 r2 q⟩
end
end Bs

set_option Elab.async false
set_option linter.all false
set_option maxRecDepth 100000
set_option maxHeartbeats 1000000
/-! Bs3: operators over data. -/
namespace Bs
open PySem PySem.Spec L2

@[simp] theorem S2_list (x : List Nat) : (S2 x).cps.toList = x := by simp [S2]
@[simp] theorem S2_len (x : List Nat) : (S2 x).length = x.length := by simp [S2, Str.length]
theorem S2_inj {x y : List Nat} : S2 x = S2 y ↔ x = y := ⟨fun h => by have := congrArg (fun z : Str => z.cps.toList) h; simpa using this, fun h => by rw [h]⟩
theorem S2_app (x y : List Nat) : S2 x ++ S2 y = S2 (x ++ y) := by
  show Str.append _ _ = _
  simp [S2, Str.append]
theorem okStr.app {x y : List Nat} (a : okStr x) (b : okStr y) (l : x.length + y.length ≤ sizeLine) : okStr (x ++ y) :=
  ⟨by simpa using l, fun c hc => (List.mem_append.mp hc).elim (a.2 c) (b.2 c)⟩

/-! ### what a datum says by itself -/
def optAll {α β : Type} (f : α → Option β) : List α → Option (List β)
  | [] => some []
  | x :: xs => match f x, optAll f xs with
    | some y, some ys => some (y :: ys)
    | _, _ => none
/-- the datum as the library's data: lists are read in the store -/
def toPd (S : Store) : Nat → D → Option PyData
  | _, .non => some .none
  | _, .bl b => some (.bool b)
  | _, .int i => some (.int i)
  | _, .str x => some (.str (S2 x))
  | n + 1, .tup xs => (optAll (toPd S n) xs).map .tuple
  | n + 1, .ref m => match S[m]? with
    | some (.lst xs) => (optAll (toPd S n) xs).map .list
    | _ => none
  | n + 1, .scr ns => some (.list (ns.map .int))
  | 0, .tup _ => none
  | 0, .ref _ => none
  | 0, .scr _ => none

section
variable {w : Wd} {H : Hp} {mu : List Addr} {S : Store}
theorem dp_ints {K : PySem.W.Frag} {H : Hp} : ∀ ns : List Int, DpAll K H (ns.map V.int) (ns.map PyData.int)
  | [] => .nil
  | n :: ns => .cons (.int n) (dp_ints ns)
theorem dp_all {n : Nat} (ih : ∀ {d : D} {v : V} {p : PyData}, RelD w H mu d v → toPd S n d = some p → Dp w.K H v p ∧ p.canLay0 = true ∧ p.depth ≤ n) :
    ∀ {xs : List D} {vs : List V} {ps : List PyData}, RelDs w H mu xs vs → optAll (toPd S n) xs = some ps → DpAll w.K H vs ps ∧ PyData.canLayAll0 ps = true ∧ PyData.depthAll ps ≤ n
  | _, _, _, .nil, e => by
    cases e
    exact ⟨.nil, by simp [PyData.canLayAll0], by simp [PyData.depthAll]⟩
  | x :: xs, _, ps, .cons a b, e => by
    simp only [optAll] at e
    split at e
    · rename_i y ys e1 e2
      cases e
      obtain ⟨h1, h2, h3⟩ := ih a e1
      obtain ⟨g1, g2, g3⟩ := dp_all ih b e2
      refine ⟨.cons h1 g1, by simp [PyData.canLayAll0, h2, g2], ?_⟩
      simp only [PyData.depthAll]
      omega
    · cases e
theorem dp_of (rs : RelS w H mu S) : ∀ {n : Nat} {d : D} {v : V} {p : PyData}, RelD w H mu d v → toPd S n d = some p → Dp w.K H v p ∧ p.canLay0 = true ∧ p.depth ≤ n := by
  intro n
  induction n with
  | zero =>
    intro d v p r e
    cases r with
    | non => cases e; exact ⟨.non, rfl, by simp [PyData.depth]⟩
    | bl => cases e; exact ⟨.bl _, rfl, by simp [PyData.depth]⟩
    | int => cases e; exact ⟨.int _, rfl, by simp [PyData.depth]⟩
    | str ok => cases e; exact ⟨.str _, by simpa [PyData.canLay0, PyData.strOk, S2] using ok.2, by simp [PyData.depth]⟩
    | tup _ _ => cases e
    | ref _ => cases e
    | scr => cases e
  | succ n ih =>
    intro d v p r e
    cases r with
    | non => cases e; exact ⟨.non, rfl, by simp [PyData.depth]⟩
    | bl => cases e; exact ⟨.bl _, rfl, by simp [PyData.depth]⟩
    | int => cases e; exact ⟨.int _, rfl, by simp [PyData.depth]⟩
    | str ok => cases e; exact ⟨.str _, by simpa [PyData.canLay0, PyData.strOk, S2] using ok.2, by simp [PyData.depth]⟩
    | tup t rd _ =>
      simp only [toPd] at e
      cases e1 : optAll (toPd S n) _ with
      | none => rw [e1] at e; cases e
      | some ps =>
        rw [e1] at e; cases e
        obtain ⟨h1, h2, h3⟩ := dp_all ih rd e1
        exact ⟨.tup t.sq h1, by simpa [PyData.canLay0] using h2, by simp only [PyData.depth]; omega⟩
    | ref hm =>
      simp only [toPd] at e
      split at e
      · rename_i xs es
        cases e1 : optAll (toPd S n) xs with
        | none => rw [e1] at e; cases e
        | some ps =>
          rw [e1] at e; cases e
          obtain ⟨vs, rd, ha, _⟩ := rs.obj _ _ _ es hm
          obtain ⟨h1, h2, h3⟩ := dp_all ih rd e1
          exact ⟨.lst (SqL.of ha) h1, by simpa [PyData.canLay0] using h2, by simp only [PyData.depth]; omega⟩
      · cases e
    | scr =>
      simp only [toPd] at e
      cases e
      have c : ∀ ns : List Int, PyData.canLayAll0 (ns.map PyData.int) = true ∧ PyData.depthAll (ns.map PyData.int) = 0 := fun ns => by
        induction ns with
        | nil => exact ⟨rfl, rfl⟩
        | cons n ns ih => simp [PyData.canLayAll0, PyData.canLay0, PyData.depthAll, PyData.depth, ih]
      refine ⟨.lst rs.scr.sq (dp_ints _), by simpa [PyData.canLay0] using (c _).1, ?_⟩
      simp only [PyData.depth, (c _).2]
      omega
end

/-- truth -/
def truD : D → Store → Res Bool
  | .non, S => .ok false S
  | .bl b, S => .ok b S
  | .int i, S => .ok (i != 0) S
  | .str x, S => .ok (!x.isEmpty) S
  | .tup xs, S => .ok (!xs.isEmpty) S
  | .scr ns, S => .ok (!ns.isEmpty) S
  | .ref n, S => match S[n]? with
    | some (.lst xs) => .ok (!xs.isEmpty) S
    | _ => .stuck
theorem RelDs.isEmpty {w : Wd} {H : Hp} {mu : List Addr} {xs : List D} {vs : List V} (r : RelDs w H mu xs vs) : xs.isEmpty = vs.isEmpty := by
  cases r <;> rfl
theorem truD_ok {w : Wd} {W : WX} {σ : St} {H : Hp} {mu : List Addr} {S : Store} {d : D} {v : V} {Q : Bool → Hp → Prop} (rs : RelS w H mu S) (r : RelD w H mu d v) (h : Post w relB W σ H mu (truD d S) Q) :
    ∃ k, TruV w.K v H k ∧ Q k H ∧ truD d S = .ok k S := by
  cases r with
  | non => exact ⟨false, rfl, h.ok rs rfl, rfl⟩
  | bl => exact ⟨_, rfl, h.ok rs rfl, rfl⟩
  | int => exact ⟨_, rfl, h.ok rs rfl, rfl⟩
  | str ok =>
    rename_i x
    refine ⟨!x.isEmpty, ⟨by simpa using ok.1, ?_⟩, h.ok rs rfl, rfl⟩
    cases x with
    | nil => simp
    | cons a x =>
      have e : (((S2 (a :: x)).length : Int) != 0) = true := by
        rw [S2_len, bne_iff_ne]
        simp only [List.length_cons]
        omega
      rw [e]
      rfl
  | tup t rd _ => exact ⟨_, .inr (.inl ⟨_, t.sq, by rw [← rd.isEmpty]⟩), h.ok rs rfl, rfl⟩
  | ref hm =>
    rename_i n a
    simp only [truD] at h ⊢
    split at h
    · rename_i xs es
      obtain ⟨vs, rd, ha, _⟩ := rs.obj _ _ _ es hm
      exact ⟨_, .inl ⟨_, SqL.of ha, by rw [← rd.isEmpty]⟩, h.ok rs rfl, by simp [es]⟩
    · exact h.elim
  | scr => exact ⟨_, .inl ⟨_, rs.scr.sq, by cases w.ns0 <;> rfl⟩, h.ok rs rfl, rfl⟩

/-! ### arithmetic -/
def alloc (o : O) (S : Store) : Res D := .ok (.ref S.length) (S ++ [o])
def addD : D → D → Store → Res D
  | .int a, .int b, S => .ok (.int (a + b)) S
  | .str a, .str b, S => if a.length + b.length ≤ sizeLine then .ok (.str (a ++ b)) S else .stuck
  | .tup a, .tup b, S => if a.length + b.length ≤ sizeLine then .ok (.tup (a ++ b)) S else .stuck
  | .ref m, .ref n, S => match S[m]?, S[n]? with
    | some (.lst a), some (.lst b) => if a.length + b.length ≤ sizeLine then alloc (.lst (a ++ b)) S else .stuck
    | _, _ => .stuck
  | _, _, _ => .stuck
def lim : Int := 18446744073709551616
def subD : D → D → Store → Res D
  | .int a, .int b, S => .ok (.int (a - b)) S
  | _, _, _ => .stuck
def mulD : D → D → Store → Res D
  | .int a, .int b, S => if (-lim < a ∧ a < lim) ∨ (-lim < b ∧ b < lim) then .ok (.int (a * b)) S else .stuck
  | .ref m, .int k, S => match S[m]? with
    | some (.lst a) => if 0 ≤ k ∧ k < 1000 ∧ a.length * k.toNat ≤ sizeLine then alloc (.lst (List.replicate k.toNat a).flatten) S else .stuck
    | _ => .stuck
  | _, _, _ => .stuck
def fdivD : D → D → Store → Res D
  | .int a, .int b, S => if 0 < b ∧ b < lim then .ok (.int (a / b)) S else .stuck
  | _, _, _ => .stuck
def modD : D → D → Store → Res D
  | .int a, .int b, S => if 0 < b then .ok (.int (a % b)) S else .stuck
  | _, _, _ => .stuck
def powD : D → D → Store → Res D
  | .int a, .int b, S => if 0 ≤ b ∧ b ≤ 100 ∧ 0 ≤ a ∧ a < 1000 then .ok (.int (a ^ b.toNat)) S else .stuck
  | _, _, _ => .stuck
/-- a new tuple -/
theorem post_tup {w : Wd} {W : WX} {σ : St} {H : Hp} {mu : List Addr} {S : Store} {ds : List D} {vs : List V} {Q : VK} (rs : RelS w H mu S) (rd : RelDs w H mu ds vs) (hl : ds.length ≤ sizeLine) (h : Post w (RelD w) W σ H mu (.ok (.tup ds) S) Q)
    {p : Addr} (hp : H p = none) : Q (.ref p) (upd H p (.tup vs)) :=
  h _ _ mu (List.prefix_refl _) (rs.other hp) (.tup (.inl upd_same) (rd.mono (Keep.new hp) (List.prefix_refl _)) hl) (Keep.new hp)
/-- a new list -/
theorem post_lst {w : Wd} {W : WX} {σ : St} {H : Hp} {mu : List Addr} {S : Store} {ds : List D} {vs : List V} {Q : VK} (rs : RelS w H mu S) (rd : RelDs w H mu ds vs) (hl : ds.length ≤ sizeLine) (h : Post w (RelD w) W σ H mu (alloc (.lst ds) S) Q)
    {p : Addr} (hp : H p = none) : Q (.ref p) (upd H p (.lst vs)) := by
  refine h _ _ (mu ++ [p]) (List.prefix_append _ _) (rs.new hp ⟨vs, rd.mono (Keep.new hp) (List.prefix_append _ _), upd_same, hl⟩) (.ref ?_) (Keep.new hp)
  rw [← rs.len]
  simp

section
variable {w : Wd}
theorem opl_add : OpL w (fun x y H Q => (∃ i j, x = .int i ∧ y = .int j ∧ Q (.int (i + j)) H) ∨ ((∃ i j, x = .str i ∧ y = .str j ∧ i.length + j.length ≤ sizeLine ∧ Q (.str (i ++ j)) H) ∨ (rCat x y H Q ∨ rCatA w.K x y H Q))) addD := by
  intro W σ H mu S x y v u Q rs rx ry h
  cases rx <;> cases ry <;> try (exact h.elim)
  · exact .inl ⟨_, _, rfl, rfl, h.ok rs .int⟩
  · rename_i x ox y oy
    simp only [addD] at h
    split at h
    · rename_i hl
      refine .inr (.inl ⟨_, _, rfl, rfl, by simpa using hl, ?_⟩)
      rw [S2_app]
      exact h.ok rs (.str (ox.app oy hl))
    · exact h.elim
  · rename_i a vs ds t r l a' vs' ds' t' r' l'
    simp only [addD] at h
    split at h
    · rename_i hl
      refine .inr (.inr (.inr ⟨a, a', vs, vs', rfl, rfl, t.sq, t'.sq, by rw [← r.length, ← r'.length]; exact hl, fun e => ?_, fun e e' => ?_, fun e e' p hp => ?_⟩))
      · subst e
        cases r
        exact h.ok rs (.tup t' r' l')
      · subst e'
        cases r'
        rw [List.append_nil] at h
        exact h.ok rs (.tup t r l)
      · exact post_tup rs (r.append r') (by simpa using hl) h hp
    · exact h.elim
  · rename_i m a hm n b hn
    simp only [addD] at h
    split at h
    · rename_i xs ys e1 e2
      split at h
      · rename_i hl
        obtain ⟨vs, rd, ha, _⟩ := rs.obj _ _ _ e1 hm
        obtain ⟨us, rd', hb, _⟩ := rs.obj _ _ _ e2 hn
        refine .inr (.inr (.inl ⟨a, b, vs, us, rfl, rfl, ha, hb, by rw [← rd.length, ← rd'.length]; exact hl, fun p hp => ?_⟩))
        exact post_lst rs (rd.append rd') (by simpa using hl) h hp
      · exact h.elim
    · exact h.elim
theorem opl_sub : OpL w (rI0 fun i j => .int (i - j)) subD := by
  intro W σ H mu S x y v u Q rs rx ry h
  cases rx <;> cases ry <;> try (exact h.elim)
  exact ⟨_, _, rfl, rfl, h.ok rs .int⟩
theorem opl_mul : OpL w (fun x y H Q => rI CMul (fun i j => .int (i * j)) x y H Q ∨ rRep x y H Q) mulD := by
  intro W σ H mu S x y v u Q rs rx ry h
  cases rx <;> cases ry <;> try (exact h.elim)
  · simp only [mulD] at h
    split at h
    · rename_i hl
      refine .inl ⟨_, _, rfl, rfl, ?_, h.ok rs .int⟩
      have e : (2 : Int) ^ 64 = lim := by decide
      unfold CMul
      rw [e]
      exact hl
    · exact h.elim
  · rename_i m a hm k
    simp only [mulD] at h
    split at h
    · rename_i xs e1
      split at h
      · rename_i hl
        obtain ⟨vs, rd, ha, _⟩ := rs.obj _ _ _ e1 hm
        refine .inr ⟨a, k, vs, rfl, rfl, ha, by omega, by omega, by rw [← rd.length]; exact hl.2.2, fun p hp => ?_⟩
        have rr : ∀ n : Nat, RelDs w H mu (List.replicate n xs).flatten (List.replicate n vs).flatten := fun n => by
          induction n with
          | zero => exact .nil
          | succ n ih => rw [List.replicate_succ, List.replicate_succ, List.flatten_cons, List.flatten_cons]; exact rd.append ih
        refine post_lst rs (rr _) ?_ h hp
        rw [List.length_flatten]
        simp
        rw [Nat.mul_comm]
        exact hl.2.2
      · exact h.elim
    · exact h.elim
theorem opl_fdiv : OpL w (rI CDivW fun i j => .int (i / j)) fdivD := by
  intro W σ H mu S x y v u Q rs rx ry h
  cases rx <;> cases ry <;> try (exact h.elim)
  rename_i i j
  simp only [fdivD] at h
  split at h
  · rename_i hl
    refine ⟨_, _, rfl, rfl, wide_div (b := 64) hl.1 ?_ (by decide) (by decide), h.ok rs .int⟩
    have e : (2 : Nat) ^ 64 = 18446744073709551616 := by decide
    have e2 := hl.2
    unfold lim at e2
    rw [e]
    omega
  · exact h.elim
theorem opl_mod : OpL w (rI (fun _ j => 0 < j) fun i j => .int (i % j)) modD := by
  intro W σ H mu S x y v u Q rs rx ry h
  cases rx <;> cases ry <;> try (exact h.elim)
  simp only [modD] at h
  split at h
  · rename_i hl
    exact ⟨_, _, rfl, rfl, hl, h.ok rs .int⟩
  · exact h.elim
theorem opl_pow : OpL w (rI CPow fun i j => .int (i ^ j.toNat)) powD := by
  intro W σ H mu S x y v u Q rs rx ry h
  cases rx <;> cases ry <;> try (exact h.elim)
  simp only [powD] at h
  split at h
  · rename_i i j hl
    refine ⟨_, _, rfl, rfl, ⟨hl.1, by omega, ?_⟩, h.ok rs .int⟩
    have e : (2 : Nat) ^ 64 = 18446744073709551616 := by decide
    rw [e]
    omega
  · exact h.elim
end

/-! ### comparisons -/
def eqD (x y : D) (S : Store) : Res D := match toPd S 60 x, toPd S 60 y with
  | some a, some b => .ok (.bl (PyData.eqv a b)) S
  | _, _ => .stuck
def neD (x y : D) (S : Store) : Res D := match toPd S 60 x, toPd S 60 y with
  | some a, some b => .ok (.bl (!PyData.eqv a b)) S
  | _, _ => .stuck
def ltD : D → D → Store → Res D
  | .int a, .int b, S => .ok (.bl (decide (a < b))) S
  | .str a, .str b, S => .ok (.bl (decide (a < b))) S
  | _, _, _ => .stuck
def leD : D → D → Store → Res D
  | .int a, .int b, S => .ok (.bl (decide (a ≤ b))) S
  | .str a, .str b, S => .ok (.bl (!decide (b < a))) S
  | _, _, _ => .stuck
def gtD : D → D → Store → Res D
  | .int a, .int b, S => .ok (.bl (decide (b < a))) S
  | .str a, .str b, S => .ok (.bl (decide (b < a))) S
  | _, _, _ => .stuck
def geD : D → D → Store → Res D
  | .int a, .int b, S => .ok (.bl (decide (b ≤ a))) S
  | .str a, .str b, S => .ok (.bl (!decide (a < b))) S
  | _, _, _ => .stuck
section
variable {w : Wd}
theorem opl_eq : OpL w (rEqD w.K) eqD := by
  intro W σ H mu S x y v u Q rs rx ry h
  unfold eqD at h
  split at h
  · rename_i a b e1 e2
    obtain ⟨h1, h2, h3⟩ := dp_of rs rx e1
    obtain ⟨g1, g2, g3⟩ := dp_of rs ry e2
    exact ⟨a, b, h1, g1, by simp [SeqAt.shaped, h2]; omega, by simp [SeqAt.shaped, g2]; omega, h.ok rs .bl⟩
  · exact h.elim
theorem opl_ne : OpL w (rNeD w.K) neD := by
  intro W σ H mu S x y v u Q rs rx ry h
  unfold neD at h
  split at h
  · rename_i a b e1 e2
    obtain ⟨h1, h2, h3⟩ := dp_of rs rx e1
    obtain ⟨g1, g2, g3⟩ := dp_of rs ry e2
    exact ⟨a, b, h1, g1, by simp [SeqAt.shaped, h2]; omega, by simp [SeqAt.shaped, g2]; omega, h.ok rs .bl⟩
  · exact h.elim
theorem opl_lt : OpL w (fun x y H Q => rI0 (fun i j => .bl (decide (i < j))) x y H Q ∨ (∃ i j, x = .str i ∧ y = .str j ∧ Q (.bl (decide (i.cps.toList < j.cps.toList))) H)) ltD := by
  intro W σ H mu S x y v u Q rs rx ry h
  cases rx <;> cases ry <;> try (exact h.elim)
  · exact .inl ⟨_, _, rfl, rfl, h.ok rs .bl⟩
  · exact .inr ⟨_, _, rfl, rfl, by rw [S2_list, S2_list]; exact h.ok rs .bl⟩
theorem opl_le : OpL w (fun x y H Q => rI0 (fun i j => .bl (decide (i ≤ j))) x y H Q ∨ (∃ i j, x = .str i ∧ y = .str j ∧ Q (.bl (!decide (j.cps.toList < i.cps.toList))) H)) leD := by
  intro W σ H mu S x y v u Q rs rx ry h
  cases rx <;> cases ry <;> try (exact h.elim)
  · exact .inl ⟨_, _, rfl, rfl, h.ok rs .bl⟩
  · exact .inr ⟨_, _, rfl, rfl, by rw [S2_list, S2_list]; exact h.ok rs .bl⟩
theorem opl_gt : OpL w (fun x y H Q => rI0 (fun i j => .bl (decide (j < i))) x y H Q ∨ (∃ i j, x = .str i ∧ y = .str j ∧ Q (.bl (decide (j.cps.toList < i.cps.toList))) H)) gtD := by
  intro W σ H mu S x y v u Q rs rx ry h
  cases rx <;> cases ry <;> try (exact h.elim)
  · exact .inl ⟨_, _, rfl, rfl, h.ok rs .bl⟩
  · exact .inr ⟨_, _, rfl, rfl, by rw [S2_list, S2_list]; exact h.ok rs .bl⟩
theorem opl_ge : OpL w (fun x y H Q => rI0 (fun i j => .bl (decide (j ≤ i))) x y H Q ∨ (∃ i j, x = .str i ∧ y = .str j ∧ Q (.bl (!decide (i.cps.toList < j.cps.toList))) H)) geD := by
  intro W σ H mu S x y v u Q rs rx ry h
  cases rx <;> cases ry <;> try (exact h.elim)
  · exact .inl ⟨_, _, rfl, rfl, h.ok rs .bl⟩
  · exact .inr ⟨_, _, rfl, rfl, by rw [S2_list, S2_list]; exact h.ok rs .bl⟩
end
end Bs

set_option Elab.async false
set_option linter.all false
set_option maxRecDepth 100000
set_option maxHeartbeats 1000000
/-! Bs4: the language over data: its terms, and what they do. -/
namespace Bs
open PySem PySem.Spec L2

/-! ### equality of data -/
mutual
def eqb : D → D → Bool
  | .non, .non => true
  | .bl a, .bl b => a == b
  | .int a, .int b => decide (a = b)
  | .str a, .str b => decide (a = b)
  | .tup a, .tup b => eqbs a b
  | .ref a, .ref b => decide (a = b)
  | .scr a, .scr b => decide (a = b)
  | _, _ => false
def eqbs : List D → List D → Bool
  | [], [] => true
  | x :: xs, y :: ys => eqb x y && eqbs xs ys
  | _, _ => false
end
mutual
theorem eqb_eq : ∀ a b : D, eqb a b = true → a = b
  | .non, b, h => by cases b <;> simp [eqb] at h ⊢
  | .bl a, b, h => by cases b <;> simp [eqb] at h ⊢; exact h
  | .int a, b, h => by cases b <;> simp [eqb] at h ⊢; exact h
  | .str a, b, h => by cases b <;> simp [eqb] at h ⊢; exact h
  | .tup a, b, h => by
    cases b <;> simp only [eqb, Bool.false_eq_true] at h
    rw [eqbs_eq a _ h]
  | .ref a, b, h => by cases b <;> simp [eqb] at h ⊢; exact h
  | .scr a, b, h => by cases b <;> simp [eqb] at h ⊢; exact h
theorem eqbs_eq : ∀ a b : List D, eqbs a b = true → a = b
  | [], b, h => by cases b <;> simp [eqbs] at h ⊢
  | x :: xs, b, h => by
    cases b with
    | nil => simp [eqbs] at h
    | cons y ys =>
      simp only [eqbs, Bool.and_eq_true] at h
      rw [eqb_eq x y h.1, eqbs_eq xs ys h.2]
end
mutual
theorem eqb_refl : ∀ a : D, eqb a a = true
  | .non => rfl
  | .bl a => by simp [eqb]
  | .int a => by simp [eqb]
  | .str a => by simp [eqb]
  | .tup a => by simp only [eqb]; exact eqbs_refl a
  | .ref a => by simp [eqb]
  | .scr a => by simp [eqb]
theorem eqbs_refl : ∀ a : List D, eqbs a a = true
  | [] => rfl
  | x :: xs => by simp only [eqbs, eqb_refl x, eqbs_refl xs, Bool.and_self]
end
instance : DecidableEq D := fun a b => decidable_of_iff (eqb a b = true) ⟨eqb_eq a b, fun h => h ▸ eqb_refl a⟩

/-! ### dicts -/
def dget (kvs : List (D × D)) (k : D) : Option D := (kvs.find? fun kv => decide (kv.1 = k)).map (·.2)
def dput (kvs : List (D × D)) (k v : D) : List (D × D) :=
  if (kvs.any fun kv => decide (kv.1 = k)) = true then kvs.map (fun kv => if kv.1 = k then (kv.1, v) else kv) else kvs ++ [(k, v)]
def ddrop (kvs : List (D × D)) (k : D) : List (D × D) := kvs.filter fun kv => decide (kv.1 ≠ k)
def flget (fs : List (Nm × D)) (x : Nm) : Option D := (fs.find? fun kv => decide (kv.1 = x)).map (·.2)
def flput (fs : List (Nm × D)) (x : Nm) (d : D) : List (Nm × D) := match fs with
  | [] => [(x, d)]
  | (y, e) :: r => if y = x then (y, d) :: r else (y, e) :: flput r x d
/-- a key that a dict of the first kind may have -/
def isKey : D → Bool
  | .int _ => true
  | .str _ => true
  | _ => false
def isKeyT : D → Bool
  | .tup ds => ds.all fun d => match d with
    | .int _ => true
    | .str _ => true
    | .non => true
    | _ => false
  | _ => false

/-! ### terms -/
inductive Bop | add | sub | mul | fdiv | mod | pow
  deriving DecidableEq
inductive Cop | eq | ne | lt | le | gt | ge | isin | notin
  deriving DecidableEq
inductive Bi | len | abs | int | str | ord | list | tuple | dict | max | min | sorted | all | set
  deriving DecidableEq
inductive Ty | str | int | bool | tuple | list
  deriving DecidableEq
inductive Tg where
  | name (i : Nat)
  | tup (is : List Nat)
  deriving DecidableEq
mutual
inductive IE where
  | cst (d : D)
  | var (i : Nat)
  | glb (x : Nm) (d : D)
  | bin (op : Bop) (a b : IE)
  | neg (a : IE)
  | not_ (a : IE)
  | cmp (op : Cop) (a b : IE)
  | chain (o1 o2 : Cop) (a b c : IE)
  | isn (a : IE)
  | isnn (a : IE)
  | and_ (es : IEs)
  | or_ (es : IEs)
  | ite (c a b : IE)
  | tup (es : IEs)
  | lst (es : IEs)
  | dict0 (t : Bool)
  | disp (ps : IPs)
  | idx (a b : IE)
  | slc (a : IE) (lo hi : IO)
  | rev (a : IE)
  | attr (a : IE) (f : Nm)
  | call (f : Nat) (args : IEs)
  | make (c : Nat) (args : IEs)
  | meth (o : IE) (m : Nm) (args : IEs)
  | bi (b : Bi) (args : IEs)
  | isi (a : IE) (t : Ty)
  | isx (a : IE) (c : Nat)
  | comp (elt : IE) (tg : Tg) (it : IT) (cond : IO) (own : List Nat)
  | sortk (a : IE) (k : Nat)
  | fstr (es : IEs)
  | gin (neg : Bool) (t : Nat) (e : IE)
  | gget (t : Nat) (e : IE)
inductive IEs where
  | nil
  | cons (e : IE) (es : IEs)
inductive IPs where
  | nil
  | cons (k v : IE) (r : IPs)
inductive IO where
  | none
  | some (e : IE)
inductive IT where
  | exp (e : IE)
  | range1 (a : IE)
  | range2 (a b : IE)
  | values (e : IE)
  | enum (e : IE)
  | zip (a b : IE)
end
def IEs.isNil : IEs → Bool
  | .nil => true
  | _ => false
mutual
inductive IS where
  | asg (tg : Tg) (e : IE)
  | asgA (o : IE) (f : Nm) (e : IE)
  | asgS (o i : IE) (e : IE)
  | par2 (i j : Nat) (a b : IE)
  | par3 (i j k : Nat) (a b c : IE)
  | aug (i : Nat) (op : Bop) (e : IE)
  | augA (o : IE) (f : Nm) (op : Bop) (e : IE)
  | augS (o i : IE) (op : Bop) (e : IE)
  | del (o i : IE)
  | expr (e : IE)
  | ret (e : IE)
  | retN
  | pass
  | brk
  | cont
  | if_ (c : IE) (a b : ISs)
  | for_ (tg : Tg) (it : IT) (body : ISs)
  | while_ (c : IE) (body : ISs)
  | raise (c : Nat) (args : IEs)
  | tryx (body : ISs) (cs : List Nat) (nm : Option Nat) (suite : ISs)
inductive ISs where
  | nil
  | cons (s : IS) (r : ISs)
end

/-! ### what a program gives to its terms -/
structure Lang where
  /-- a def called -/
  call : Nat → List D → Store → Res D
  /-- a class's method -/
  meth : Nat → Nm → Option Nat
  /-- a class's __init__ -/
  init : Nat → Option Nat
  /-- the attributes of a class's instances -/
  fld : Nat → List Nm
  /-- is the first class (of an exception) the second, or under it -/
  sub : Nat → Nat → Bool
  /-- a table of the module -/
  tbl : Nat → List (Nm × D)
  /-- how often a while may turn -/
  turns : Nat

/-! ### subscripts -/
def sliceL {α : Type} (xs : List α) (lo hi : Option Int) : List α := (xs.drop (HT.sIx xs.length 0 lo)).take (HT.sIx xs.length xs.length hi - HT.sIx xs.length 0 lo)
def optD (o : Option D) (S : Store) : Res D := match o with
  | some d => .ok d S
  | none => .stuck
def idxD : D → D → Store → Res D
  | .tup xs, .int i, S => optD (atI xs i) S
  | .str x, .int i, S => optD ((atI x i).map fun c => .str [c]) S
  | .scr ns, .int i, S => optD ((atI ns i).map .int) S
  | .ref n, k, S => match S[n]? with
    | some (.lst xs) => match k with
      | .int i => optD (atI xs i) S
      | _ => .stuck
    | some (.dic _ kvs) => if isKey k then optD (dget kvs k) S else .stuck
    | some (.dit kvs) => if isKeyT k then optD (dget kvs k) S else .stuck
    | _ => .stuck
  | _, _, _ => .stuck
def slcD (x : D) (lo hi : Option Int) (S : Store) : Res D := match x with
  | .tup xs => .ok (.tup (sliceL xs lo hi)) S
  | .str z => .ok (.str (sliceL z lo hi)) S
  | .scr ns => alloc (.lst ((sliceL ns lo hi).map .int)) S
  | .ref n => match S[n]? with
    | some (.lst xs) => alloc (.lst (sliceL xs lo hi)) S
    | _ => .stuck
  | _ => .stuck
def revD (x : D) (S : Store) : Res D := match x with
  | .ref n => match S[n]? with
    | some (.lst xs) => alloc (.lst xs.reverse) S
    | _ => .stuck
  | _ => .stuck
def putS (n : Nat) (o : O) (S : Store) : Res Unit := .ok () (S.set n o)
def setD (o i v : D) (S : Store) : Res Unit := match o with
  | .ref n => match S[n]? with
    | some (.lst xs) => match i with
      | .int k => match ixN xs.length k with
        | some j => putS n (.lst (xs.set j v)) S
        | none => .stuck
      | _ => .stuck
    | some (.dic false kvs) => if isKey i ∧ kvs.length < sizeLine then putS n (.dic false (dput kvs i v)) S else .stuck
    | some (.dit kvs) => if isKeyT i ∧ kvs.length < sizeLine then putS n (.dit (dput kvs i v)) S else .stuck
    | _ => .stuck
  | _ => .stuck
def delD (o i : D) (S : Store) : Res Unit := match o with
  | .ref n => match S[n]? with
    | some (.dic false kvs) => if isKey i ∧ (dget kvs i).isSome then putS n (.dic false (ddrop kvs i)) S else .stuck
    | _ => .stuck
  | _ => .stuck
def attrD (G : Lang) (f : Nm) (x : D) (S : Store) : Res D := match x with
  | .ref n => match S[n]? with
    | some (.ins c fs) => if f ∈ G.fld c then optD (flget fs f) S else .stuck
    | some (.xcp c fs) => optD (flget fs f) S
    | _ => .stuck
  | _ => .stuck
def setA (G : Lang) (f : Nm) (x v : D) (S : Store) : Res Unit := match x with
  | .ref n => match S[n]? with
    | some (.ins c fs) => if f ∈ G.fld c ∧ fs.length < 900 then putS n (.ins c (flput fs f v)) S else .stuck
    | _ => .stuck
  | _ => .stuck
/-- x in y -/
def inD (x y : D) (S : Store) : Res Bool := match y with
  | .str z => match x with
    | .str [c] => .ok (decide (c ∈ z)) S
    | _ => .stuck
  | .tup ys => match x with
    | .str z => if ys.all fun d => match d with
        | .str _ => true
        | _ => false
      then .ok (decide (D.str z ∈ ys)) S else .stuck
    | _ => .stuck
  | .ref n => match S[n]? with
    | some (.lst ys) => match toPd S 60 x, optAll (toPd S 59) ys with
      | some a, some bs => .ok (bs.any fun b => PyData.eqv b a) S
      | _, _ => .stuck
    | some (.dic _ kvs) => if isKey x then .ok (dget kvs x).isSome S else .stuck
    | some (.dit kvs) => if isKeyT x then .ok (dget kvs x).isSome S else .stuck
    | _ => .stuck
  | _ => .stuck
def binD : Bop → D → D → Store → Res D
  | .add => addD
  | .sub => subD
  | .mul => mulD
  | .fdiv => fdivD
  | .mod => modD
  | .pow => powD
def blD (r : Res Bool) : Res D := r.bind fun b S => .ok (.bl b) S
def cmpD : Cop → D → D → Store → Res D
  | .eq => eqD
  | .ne => neD
  | .lt => ltD
  | .le => leD
  | .gt => gtD
  | .ge => geD
  | .isin => fun x y S => blD (inD x y S)
  | .notin => fun x y S => (inD x y S).bind fun b S => .ok (.bl (!b)) S
def negD : D → Store → Res D
  | .int i, S => .ok (.int (-i)) S
  | _, _ => .stuck
/-- isinstance -/
def isiD (t : Ty) (x : D) (S : Store) : Res D := match x with
  | .non => .ok (.bl false) S
  | .bl _ => .ok (.bl (t == .bool || t == .int)) S
  | .int _ => .ok (.bl (t == .int)) S
  | .str _ => .ok (.bl (t == .str)) S
  | .tup _ => .ok (.bl (t == .tuple)) S
  | .scr _ => .ok (.bl (t == .list)) S
  | .ref n => match S[n]? with
    | some (.lst _) => .ok (.bl (t == .list)) S
    | _ => .stuck

/-! ### built-in functions -/
/-- a list or a tuple as its items -/
def itemsD (x : D) (S : Store) : Option (List D) := match x with
  | .tup xs => some xs
  | .scr ns => some (ns.map .int)
  | .ref n => match S[n]? with
    | some (.lst xs) => some xs
    | _ => none
  | _ => none
def ints? : List D → Option (List Int) := optAll fun d => match d with
  | .int i => some i
  | _ => none
def strs? : List D → Option (List (List Nat)) := optAll fun d => match d with
  | .str x => some x
  | _ => none
def ins {α : Type} (le : α → α → Bool) (x : α) : List α → List α
  | [] => [x]
  | y :: ys => if le x y then x :: y :: ys else y :: ins le x ys
def isort {α : Type} (le : α → α → Bool) : List α → List α
  | [] => []
  | x :: xs => ins le x (isort le xs)
def leS (a b : List Nat) : Bool := !decide (b < a)
def leI (a b : Int) : Bool := decide (a ≤ b)
def sortL (xs : List D) : Option (List D) := if 64 ≤ xs.length then none else match ints? xs with
  | some ns => some ((isort leI ns).map .int)
  | none => match strs? xs with
    | some zs => some ((isort leS zs).map .str)
    | none => none
/-- what sorted and list walk -/
def walkD (x : D) (S : Store) : Option (List D) := match x with
  | .ref n => match S[n]? with
    | some (.lst xs) => some xs
    | some (.dic _ kvs) => some (kvs.map (·.1))
    | some (.set xs) => some xs
    | _ => none
  | x => itemsD x S
def maxI (n : Int) : List Int → Int
  | [] => n
  | x :: xs => maxI (if x > n then x else n) xs
def minI (n : Int) : List Int → Int
  | [] => n
  | x :: xs => minI (if x < n then x else n) xs
def digitsN (n : Nat) : List Nat := (toString n).toList.map Char.toNat
def strI (i : Int) : List Nat := (toString i).toList.map Char.toNat
def isDig (c : Nat) : Bool := 48 ≤ c && c ≤ 57
def numN (x : List Nat) : Nat := x.foldl (fun a c => 10 * a + (c - 48)) 0
def intS (x : List Nat) : Option Int := match x with
  | 45 :: r => if r ≠ [] ∧ r.all isDig ∧ r.length ≤ 600 then some (-(numN r : Int)) else none
  | r => if r ≠ [] ∧ r.all isDig ∧ r.length ≤ 600 then some (numN r : Int) else none
def dedup (xs : List D) : List D := xs.foldl (fun acc x => if x ∈ acc then acc else acc ++ [x]) []
def bools? : List D → Option (List Bool) := optAll fun d => match d with
  | .bl b => some b
  | _ => none
def notTup : D → Bool
  | .tup _ => false
  | _ => true
/-- what sorted walks: no tuple -/
def walkS (x : D) (S : Store) : Option (List D) := if notTup x then walkD x S else none
def itemsL (x : D) (S : Store) : Option (List D) := if notTup x then itemsD x S else none
def biD (b : Bi) (xs : List D) (S : Store) : Res D := match b, xs with
  | .len, [x] => match x with
    | .str z => .ok (.int z.length) S
    | .ref n => match S[n]? with
      | some (.lst xs) => .ok (.int xs.length) S
      | some (.dic _ kvs) => .ok (.int kvs.length) S
      | _ => .stuck
    | x => match itemsD x S with
      | some xs => .ok (.int xs.length) S
      | none => .stuck
  | .abs, [.int i] => .ok (.int (if i < 0 then -i else i)) S
  | .int, [.int i] => .ok (.int i) S
  | .int, [.bl b] => .ok (.int (if b then 1 else 0)) S
  | .str, [.int i] => if i.natAbs < 10 ^ 40 then .ok (.str (strI i)) S else .stuck
  | .ord, [.str [c]] => .ok (.int c) S
  | .list, [x] => match walkD x S with
    | some xs => if xs.length ≤ sizeLine then alloc (.lst xs) S else .stuck
    | none => .stuck
  | .tuple, [x] => match itemsD x S with
    | some xs => if xs.length ≤ sizeLine then .ok (.tup xs) S else .stuck
    | none => .stuck
  | .dict, [.ref n] => match S[n]? with
    | some (.dic _ kvs) => alloc (.dic false kvs) S
    | _ => .stuck
  | .max, [.int a, .int b] => .ok (.int (if b > a then b else a)) S
  | .max, [.str a, .str b] => .ok (.str (if a < b then b else a)) S
  | .max, [x] => match (itemsL x S).bind ints? with
    | some (n :: ns) => .ok (.int (maxI n ns)) S
    | _ => .stuck
  | .min, [.int a, .int b] => .ok (.int (if b < a then b else a)) S
  | .min, [.str a, .str b] => .ok (.str (if b < a then b else a)) S
  | .min, [x] => match (itemsL x S).bind ints? with
    | some (n :: ns) => .ok (.int (minI n ns)) S
    | _ => .stuck
  | .sorted, [x] => match (walkS x S).bind sortL with
    | some xs => alloc (.lst xs) S
    | none => .stuck
  | .all, [x] => match (itemsL x S).bind bools? with
    | some bs => .ok (.bl (bs.all id)) S
    | none => .stuck
  | .set, [x] => match (itemsD x S).bind strs? with
    | some zs => alloc (.set (dedup (zs.map .str))) S
    | none => .stuck
  | _, _ => .stuck

/-! ### methods -/
inductive MK where
  | own (c f : Nat)
  | lst
  | dic
  | str
def nmOf (s : String) : Nm := s.toList.map Char.toNat
def mAppend : Nm := [97, 112, 112, 101, 110, 100]
def mExtend : Nm := [101, 120, 116, 101, 110, 100]
def mPop : Nm := [112, 111, 112]
def mInsert : Nm := [105, 110, 115, 101, 114, 116]
def mIndex : Nm := [105, 110, 100, 101, 120]
def mGet : Nm := [103, 101, 116]
def mJoin : Nm := [106, 111, 105, 110]
def mFind : Nm := [102, 105, 110, 100]
def mReplace : Nm := [114, 101, 112, 108, 97, 99, 101]
def mSplit : Nm := [115, 112, 108, 105, 116]
def mStartswith : Nm := [115, 116, 97, 114, 116, 115, 119, 105, 116, 104]
/-- which methods things have here -/
def strMs : List Nm := []
def lstMs : List Nm := [mAppend, mExtend]
def dicMs : List Nm := [mGet, mPop]
def ditMs : List Nm := [mGet]
def hasM (b : Bool) (k : MK) (S : Store) : Res MK := if b = true then .ok k S else .stuck
def methOf (G : Lang) (m : Nm) (x : D) (S : Store) : Res MK := match x with
  | .str _ => hasM (decide (m ∈ strMs)) .str S
  | .ref n => match S[n]? with
    | some (.lst _) => hasM (decide (m ∈ lstMs)) .lst S
    | some (.dic _ _) => hasM (decide (m ∈ dicMs)) .dic S
    | some (.dit _) => hasM (decide (m ∈ ditMs)) .dic S
    | some (.ins c fs) => if flget fs m = none then match G.meth c m with
      | some f => .ok (.own c f) S
      | none => .stuck
      else .stuck
    | _ => .stuck
  | _ => .stuck
def nonU (r : Res Unit) : Res D := r.bind fun _ S => .ok .non S
def lstM (m : Nm) (n : Nat) (args : List D) (S : Store) : Res D := match S[n]? with
  | some (.lst xs) =>
    if m = mAppend then match args with
      | [y] => if xs.length < sizeLine then nonU (putS n (.lst (xs ++ [y])) S) else .stuck
      | _ => .stuck
    else if m = mExtend then match args with
      | [.ref k] => match S[k]? with
        | some (.lst ys) => if xs.length + ys.length ≤ sizeLine then nonU (putS n (.lst (xs ++ ys)) S) else .stuck
        | _ => .stuck
      | _ => .stuck
    else .stuck
  | _ => .stuck
def dicM (m : Nm) (n : Nat) (args : List D) (S : Store) : Res D := match S[n]? with
  | some (.dic lk kvs) =>
    if m = mGet then match args with
      | [k] => if isKey k then .ok ((dget kvs k).getD .non) S else .stuck
      | [k, d] => if isKey k then .ok ((dget kvs k).getD d) S else .stuck
      | _ => .stuck
    else if m = mPop ∧ lk = false then match args with
      | [k] => match dget kvs k with
        | some v => if isKey k then (putS n (.dic false (ddrop kvs k)) S).bind fun _ S => .ok v S else .stuck
        | none => .stuck
      | [k, d] => if isKey k then match dget kvs k with
        | some v => (putS n (.dic false (ddrop kvs k)) S).bind fun _ S => .ok v S
        | none => .ok d S
        else .stuck
      | _ => .stuck
    else .stuck
  | some (.dit kvs) =>
    if m = mGet then match args with
      | [k, d] => if isKeyT k then .ok ((dget kvs k).getD d) S else .stuck
      | _ => .stuck
    else .stuck
  | _ => .stuck
/-- the first place of a text in another, from a place on -/
def findN (z b : List Nat) : Nat → Option Nat
  | i => if b <+: z.drop i then some i else if i < z.length then findN z b (i + 1) else none
termination_by i => z.length - i
def replQ (a b : Nat → List Nat) : List Nat → List Nat
  | [] => []
  | c :: r => b c ++ replQ a b r
/-- split at a sign -/
def splitC (c : Nat) : List Nat → List Nat → List (List Nat)
  | acc, [] => [acc]
  | acc, x :: xs => if x = c then acc :: splitC c [] xs else splitC c (acc ++ [x]) xs
def splitM (c : Nat) : Nat → List Nat → List Nat → List (List Nat)
  | _, acc, [] => [acc]
  | 0, acc, xs => [acc ++ xs]
  | n + 1, acc, x :: xs => if x = c then acc :: splitM c n [] xs else splitM c (n + 1) (acc ++ [x]) xs
def joinL (s : List Nat) : List (List Nat) → List Nat
  | [] => []
  | [x] => x
  | x :: r => x ++ s ++ joinL s r
def strM (m : Nm) (z : List Nat) (args : List D) (S : Store) : Res D :=
  if m = mJoin then match args with
    | [x] => match (itemsD x S).bind strs? with
      | some zs => if (joinL z zs).length ≤ sizeLine then .ok (.str (joinL z zs)) S else .stuck
      | none => .stuck
    | _ => .stuck
  else if m = mFind then match args with
    | [.str b, .int i] => if 0 ≤ i ∧ b ≠ [] then .ok (.int (match findN z b i.toNat with
      | some j => (j : Int)
      | none => -1)) S else .stuck
    | _ => .stuck
  else if m = mReplace then match args with
    | [.str [a], .str b] => if (z.flatMap fun c => if c = a then b else [c]).length ≤ sizeLine then .ok (.str (z.flatMap fun c => if c = a then b else [c])) S else .stuck
    | _ => .stuck
  else if m = mSplit then match args with
    | [.str [c]] => if z.length + 2 ≤ sizeLine then alloc (.lst ((splitC c [] z).map .str)) S else .stuck
    | [.str [c], .int k] => if z.length + 2 ≤ sizeLine ∧ 0 ≤ k ∧ k < 1000 then alloc (.lst ((splitM c k.toNat [] z).map .str)) S else .stuck
    | _ => .stuck
  else if m = mStartswith then match args with
    | [.str b] => .ok (.bl (b.isPrefixOf z)) S
    | _ => .stuck
  else .stuck
def methD (G : Lang) (m : Nm) (k : MK) (x : D) (args : List D) (S : Store) : Res D := match k, x with
  | .own _ f, x => G.call f (x :: args) S
  | .lst, .ref n => lstM m n args S
  | .dic, .ref n => dicM m n args S
  | .str, .str z => strM m z args S
  | _, _ => .stuck

/-! ### what is walked -/
inductive It where
  | items (xs : List D)
  | live (n : Nat)
  | enum (n : Nat)
  | keys (n : Nat) (was : Bool) (xs : List D)
/-- the i-th item; none: it stops -/
def nextI (it : It) (i : Nat) (S : Store) : Res (Option D) := match it with
  | .items xs => .ok xs[i]? S
  | .live n => match S[n]? with
    | some (.lst xs) => .ok xs[i]? S
    | _ => .stuck
  | .enum n => match S[n]? with
    | some (.lst xs) => .ok (xs[i]?.map fun d => .tup [.int i, d]) S
    | _ => .stuck
  | .keys n _ xs => .ok xs[i]? S
/-- its length at the start: the most turns -/
def lenI (it : It) (S : Store) : Nat := match it with
  | .items xs => xs.length
  | .live n => match S[n]? with
    | some (.lst xs) => xs.length
    | _ => 0
  | .enum n => match S[n]? with
    | some (.lst xs) => xs.length
    | _ => 0
  | .keys _ _ xs => xs.length
def lockD (n : Nat) (f : List (D × D) → List D) (S : Store) : Res It := match S[n]? with
  | some (.dic lk kvs) => .ok (.keys n lk (f kvs)) (S.set n (.dic true kvs))
  | _ => .stuck
def openI (it : It) (S : Store) : Res Unit := match it with
  | .keys n was _ => match S[n]? with
    | some (.dic _ kvs) => .ok () (S.set n (.dic was kvs))
    | _ => .stuck
  | _ => .ok () S
def rangeD (a b : Int) : List D := (List.range (b - a).toNat).map fun k => .int (a + (k : Nat))
def bound : Int := 1000000000
def iterD (x : D) (S : Store) : Res It := match x with
  | .tup xs => .ok (.items xs) S
  | .str z => .ok (.items (z.map fun c => .str [c])) S
  | .scr ns => .ok (.items (ns.map .int)) S
  | .ref n => match S[n]? with
    | some (.lst _) => .ok (.live n) S
    | _ => .stuck
  | _ => .stuck
/-- a target takes a value -/
def tgD (tg : Tg) (d : D) (rho : En) : Option En := match tg with
  | .name i => some (rho.set i (some d))
  | .tup is => match d with
    | .tup ds => if ds.length = is.length then some ((is.zip ds).foldl (fun r p => r.set p.1 (some p.2)) rho) else none
    | _ => none
/-- the loop of a comprehension; n0: the list that it makes -/
def compN (it : It) (tg : Tg) (own : List Nat) (n0 : Nat) (cond : Mx Bool) (elt : Mx D) (rho : En) : Nat → Nat → Store → Res D
  | fuel, i, S => (nextI it i S).bind fun d S => match d with
    | none => .ok (.ref n0) S
    | some d => match fuel with
      | 0 => .stuck
      | fuel + 1 => match tgD tg d (own.foldr (fun v r => r.set v none) rho) with
        | none => .stuck
        | some r1 => (cond r1 S).bind fun b S => if b = true then
            (elt r1 S).bind fun y S => match S[n0]? with
              | some (.lst acc) => if acc.length < sizeLine then compN it tg own n0 cond elt rho fuel (i + 1) (S.set n0 (.lst (acc ++ [y]))) else .stuck
              | _ => .stuck
          else compN it tg own n0 cond elt rho fuel (i + 1) S
/-- no exception leaves a comprehension here -/
def noX {α : Type} (r : Res α) : Res α := match r with
  | .exc _ _ _ => .stuck
  | r => r
/-- the keys of sorted(.., key=..): 0: row[0], row[2]; 1: row[0].epoch, row[0].low; 2: piece[0] -/
def keyOf (k : Nat) (d : D) (S : Store) : Option D := none
def sortkD (k : Nat) (x : D) (S : Store) : Res D := .stuck
def fstrD (xs : List D) (S : Store) : Res D := .stuck
def gget (t : List (Nm × D)) (d : D) : Option D := match d with
  | .str x => flget t x
  | _ => none

/-! ### what terms do -/
section
variable (G : Lang)
mutual
def evE : IE → Mx D
  | .cst d => evC d
  | .var i => evVar i
  | .glb _ d => evC d
  | .bin op a b => ev2 (evE a) (evE b) (binD op)
  | .neg a => ev1 (evE a) negD
  | .not_ a => ev1 (ev1 (evE a) truD) fun b S => .ok (.bl (!b)) S
  | .cmp op a b => ev2 (evE a) (evE b) (cmpD op)
  | .chain o1 o2 a b c => fun rho S => (evE a rho S).bind fun x S => (evE b rho S).bind fun y S => (cmpD o1 x y S).bind fun z S => match z with
    | .bl true => (evE c rho S).bind fun u S => cmpD o2 y u S
    | .bl false => .ok (.bl false) S
    | _ => .stuck
  | .isn a => ev1 (evE a) fun x S => .ok (.bl (decide (x = .non))) S
  | .isnn a => ev1 (evE a) fun x S => .ok (.bl (!decide (x = .non))) S
  | .and_ es => evAnd es
  | .or_ es => evOr es
  | .ite c a b => fun rho S => (ev1 (evE c) truD rho S).bind fun t S => if t = true then evE a rho S else evE b rho S
  | .tup es => ev1 (evEs es) fun xs S => if xs.length ≤ sizeLine then .ok (.tup xs) S else .stuck
  | .lst es => ev1 (evEs es) fun xs S => if xs.length ≤ sizeLine then alloc (.lst xs) S else .stuck
  | .dict0 t => fun _ S => alloc (if t then .dit [] else .dic false []) S
  | .disp ps => fun rho S => (alloc (.dic false []) S).bind fun d S => match d with
    | .ref n => (evPs ps rho S).bind fun ps S => if ps.all (fun p => isKey p.1) ∧ ps.length ≤ 15 then match S[n]? with
      | some (.dic false []) => .ok (.ref n) (S.set n (.dic false (ps.foldl (fun acc p => dput acc p.1 p.2) [])))
      | _ => .stuck
      else .stuck
    | _ => .stuck
  | .idx a b => ev2 (evE a) (evE b) idxD
  | .slc a lo hi => fun rho S => (evE a rho S).bind fun x S => (evO lo rho S).bind fun l S => (evO hi rho S).bind fun h S => slcD x l h S
  | .rev a => ev1 (evE a) revD
  | .attr a f => ev1 (evE a) (attrD G f)
  | .call f args => ev1 (evEs args) (G.call f)
  | .make c args => ev1 (evEs args) fun xs S => match G.init c with
    | some f => (alloc (.ins c []) S).bind fun x S => (G.call f (x :: xs) S).bind fun r S => if r = .non then .ok x S else .stuck
    | none => .stuck
  | .meth o m args => fun rho S => (evE o rho S).bind fun x S => (methOf G m x S).bind fun k S => (evEs args rho S).bind fun xs S => methD G m k x xs S
  | .bi b args => ev1 (evEs args) (biD b)
  | .isi a t => ev1 (evE a) (isiD t)
  | .isx a c => ev1 (evE a) fun x S => match x with
    | .ref n => match S[n]? with
      | some (.xcp c' _) => .ok (.bl (G.sub c' c)) S
      | _ => .stuck
    | _ => .stuck
  | .comp elt tg it cond own => fun rho S => (evT it rho S).bind fun it S => match it with
    | .keys _ _ _ => .stuck
    | it => (alloc (.lst []) S).bind fun d S => match d with
      | .ref n0 => noX (compN it tg own n0 (evC1 cond) (evE elt) rho (lenI it S) 0 S)
      | _ => .stuck
  | .sortk a k => ev1 (evE a) (sortkD k)
  | .fstr es => ev1 (evEs es) fstrD
  | .gin neg t e => ev1 (evE e) fun x S => match x with
    | .str z => .ok (.bl ((flget (G.tbl t) z).isSome != neg)) S
    | _ => .stuck
  | .gget t e => ev1 (evE e) fun x S => optD (gget (G.tbl t) x) S
def evEs : IEs → Mx (List D)
  | .nil => fun _ S => .ok [] S
  | .cons e es => ev2 (evE e) (evEs es) fun x xs S => .ok (x :: xs) S
def evPs : IPs → Mx (List (D × D))
  | .nil => fun _ S => .ok [] S
  | .cons k v r => fun rho S => (evE k rho S).bind fun x S => (evE v rho S).bind fun y S => (evPs r rho S).bind fun ps S => .ok ((x, y) :: ps) S
def evAnd : IEs → Mx D
  | .nil => fun _ S => .ok (.bl true) S
  | .cons e es => fun rho S => (evE e rho S).bind fun x S => if es.isNil = true then .ok x S else (truD x S).bind fun b S => if b = true then evAnd es rho S else .ok x S
def evOr : IEs → Mx D
  | .nil => fun _ S => .ok (.bl false) S
  | .cons e es => fun rho S => (evE e rho S).bind fun x S => if es.isNil = true then .ok x S else (truD x S).bind fun b S => if b = true then .ok x S else evOr es rho S
def evO : IO → Mx (Option Int)
  | .none => fun _ S => .ok none S
  | .some e => ev1 (evE e) fun x S => match x with
    | .int i => .ok (some i) S
    | _ => .stuck
/-- a comprehension's test -/
def evC1 : IO → Mx Bool
  | .none => fun _ S => .ok true S
  | .some e => ev1 (evE e) truD
def evT : IT → Mx It
  | .exp e => ev1 (evE e) iterD
  | .range1 a => ev1 (evE a) fun x S => match x with
    | .int j => if -bound ≤ j ∧ j ≤ bound then .ok (.items (rangeD 0 j)) S else .stuck
    | _ => .stuck
  | .range2 a b => ev2 (evE a) (evE b) fun x y S => match x, y with
    | .int i, .int j => if -bound ≤ i ∧ i ≤ bound ∧ -bound ≤ j ∧ j ≤ bound then .ok (.items (rangeD i j)) S else .stuck
    | _, _ => .stuck
  | .values e => ev1 (evE e) fun x S => match x with
    | .ref n => lockD n (fun kvs => kvs.map (·.2)) S
    | _ => .stuck
  | .enum e => ev1 (evE e) fun x S => match x with
    | .ref n => match S[n]? with
      | some (.lst _) => .ok (.enum n) S
      | _ => .stuck
    | _ => .stuck
  | .zip a b => ev2 (evE a) (evE b) fun x y S => match x, y with
    | .tup xs, .tup ys => .ok (.items ((xs.zip ys).map fun p => .tup [p.1, p.2])) S
    | _, _ => .stuck
end
end

/-! ### statements -/
inductive SR where
  | nx (rho : En) (S : Store)
  | rt (d : D) (S : Store)
  | bk (rho : En) (S : Store)
  | ct (rho : En) (S : Store)
  | ex (c : Nat) (fs : List (Nm × D)) (rho : En) (S : Store)
  | stuck
abbrev Mz := En → Store → SR
/-- an expression's value, then a statement -/
def sr1 {α : Type} (rho : En) (r : Res α) (f : α → Store → SR) : SR := match r with
  | .ok a S => f a S
  | .exc c fs S => .ex c fs rho S
  | .stuck => .stuck
/-- a statement, then the rest -/
def SR.seq (r : SR) (f : Mz) : SR := match r with
  | .nx rho S => f rho S
  | r => r
@[simp] theorem sr1_ok {α : Type} (rho : En) (a : α) (S : Store) (f : α → Store → SR) : sr1 rho (.ok a S) f = f a S := rfl
@[simp] theorem sr1_exc {α : Type} (rho : En) (c : Nat) (fs : List (Nm × D)) (S : Store) (f : α → Store → SR) : sr1 rho (.exc c fs S : Res α) f = .ex c fs rho S := rfl
@[simp] theorem sr1_stuck {α : Type} (rho : En) (f : α → Store → SR) : sr1 rho (.stuck : Res α) f = .stuck := rfl
@[simp] theorem seq_nx (rho : En) (S : Store) (f : Mz) : (SR.nx rho S).seq f = f rho S := rfl
@[simp] theorem seq_rt (d : D) (S : Store) (f : Mz) : (SR.rt d S).seq f = .rt d S := rfl
@[simp] theorem seq_bk (rho : En) (S : Store) (f : Mz) : (SR.bk rho S).seq f = .bk rho S := rfl
@[simp] theorem seq_ct (rho : En) (S : Store) (f : Mz) : (SR.ct rho S).seq f = .ct rho S := rfl
@[simp] theorem seq_ex (c : Nat) (fs : List (Nm × D)) (rho : En) (S : Store) (f : Mz) : (SR.ex c fs rho S).seq f = .ex c fs rho S := rfl
@[simp] theorem seq_stuck (f : Mz) : SR.stuck.seq f = .stuck := rfl
def optS (o : Option En) (S : Store) : SR := match o with
  | some r => .nx r S
  | none => .stuck
/-- the loop of a for -/
def forN (it : It) (tg : Tg) (body : Mz) : Nat → Nat → Mz
  | fuel, i, rho, S => sr1 rho (nextI it i S) fun d S => match d with
    | none => .nx rho S
    | some d => match fuel with
      | 0 => .stuck
      | fuel + 1 => match tgD tg d rho with
        | none => .stuck
        | some r1 => match body r1 S with
          | .nx r S => forN it tg body fuel (i + 1) r S
          | .ct r S => forN it tg body fuel (i + 1) r S
          | .bk r S => .nx r S
          | r => r
/-- behind a loop that locked a dict -/
def shutS (it : It) (r : SR) : SR := match r with
  | .nx rho S => sr1 rho (openI it S) fun _ S => .nx rho S
  | .rt d S => sr1 [] (openI it S) fun _ S => .rt d S
  | .ex c fs rho S => sr1 rho (openI it S) fun _ S => .ex c fs rho S
  | r => r
def whileN (c : Mx Bool) (body : Mz) : Nat → Mz
  | fuel, rho, S => sr1 rho (c rho S) fun b S => if b = true then match fuel with
      | 0 => .stuck
      | fuel + 1 => match body rho S with
        | .nx r S => whileN c body fuel r S
        | .ct r S => whileN c body fuel r S
        | .bk r S => .nx r S
        | r => r
    else .nx rho S
section
variable (G : Lang)
mutual
def evS : IS → Mz
  | .asg tg e => fun rho S => sr1 rho (evE G e rho S) fun x S => optS (tgD tg x rho) S
  | .asgA o f e => fun rho S => sr1 rho (evE G e rho S) fun v S => sr1 rho (evE G o rho S) fun x S => sr1 rho (setA G f x v S) fun _ S => .nx rho S
  | .asgS o i e => fun rho S => sr1 rho (evE G e rho S) fun v S => sr1 rho (evE G o rho S) fun x S => sr1 rho (evE G i rho S) fun k S => sr1 rho (setD x k v S) fun _ S => .nx rho S
  | .par2 i j a b => fun rho S => sr1 rho (evE G a rho S) fun x S => sr1 rho (evE G b rho S) fun y S => .nx ((rho.set i (some x)).set j (some y)) S
  | .par3 i j k a b c => fun rho S => sr1 rho (evE G a rho S) fun x S => sr1 rho (evE G b rho S) fun y S => sr1 rho (evE G c rho S) fun z S => .nx (((rho.set i (some x)).set j (some y)).set k (some z)) S
  | .aug i op e => fun rho S => sr1 rho (evVar i rho S) fun x S => sr1 rho (evE G e rho S) fun y S => sr1 rho (binD op x y S) fun z S => .nx (rho.set i (some z)) S
  | .augA o f op e => fun rho S => sr1 rho (evE G o rho S) fun p S => sr1 rho (attrD G f p S) fun x S => sr1 rho (evE G e rho S) fun y S => sr1 rho (binD op x y S) fun z S => sr1 rho (setA G f p z S) fun _ S => .nx rho S
  | .augS o i op e => fun rho S => sr1 rho (evE G o rho S) fun p S => sr1 rho (evE G i rho S) fun k S => sr1 rho (idxD p k S) fun x S => sr1 rho (evE G e rho S) fun y S => sr1 rho (binD op x y S) fun z S => sr1 rho (setD p k z S) fun _ S => .nx rho S
  | .del o i => fun rho S => sr1 rho (evE G o rho S) fun p S => sr1 rho (evE G i rho S) fun k S => sr1 rho (delD p k S) fun _ S => .nx rho S
  | .expr e => fun rho S => sr1 rho (evE G e rho S) fun _ S => .nx rho S
  | .ret e => fun rho S => sr1 rho (evE G e rho S) fun x S => .rt x S
  | .retN => fun _ S => .rt .non S
  | .pass => .nx
  | .brk => .bk
  | .cont => .ct
  | .if_ c a b => fun rho S => sr1 rho (ev1 (evE G c) truD rho S) fun t S => if t = true then evSs a rho S else evSs b rho S
  | .for_ tg it body => fun rho S => sr1 rho (evT G it rho S) fun it S => shutS it (forN it tg (evSs body) (lenI it S) 0 rho S)
  | .while_ c body => whileN (ev1 (evE G c) truD) (evSs body) G.turns
  | .raise c args => fun rho S => sr1 rho (evEs G args rho S) fun xs S => match G.init c with
    | none => if xs = [] then .ex c [] rho S else .stuck
    | some _ => match xs, G.fld c with
      | [a, b], [f, g] => .ex c [(f, a), (g, b)] rho S
      | _, _ => .stuck
  | .tryx body cs nm suite => fun rho S => match evSs body rho S with
    | .ex c fs r S => if cs.any (G.sub c) = true then match nm with
        | none => evSs suite r S
        | some i => match evSs suite (r.set i (some (.ref S.length))) (S ++ [.xcp c fs]) with
          | .nx r S => .nx (r.set i none) S
          | r => r
      else .ex c fs r S
    | r => r
def evSs : ISs → Mz
  | .nil => .nx
  | .cons s r => fun rho S => (evS s rho S).seq (evSs r)
end
end
def startE (n : Nat) (args : List D) : En := args.map some ++ List.replicate (n - args.length) none
/-- a def's body, called -/
def runBody (G : Lang) (slots params : Nat) (body : ISs) (args : List D) (S : Store) : Res D :=
  if args.length = params then match evSs G body (startE slots args) S with
    | .nx _ S => .ok .non S
    | .rt d S => .ok d S
    | .ex c fs _ S => .exc c fs S
    | _ => .stuck
  else .stuck
end Bs

set_option Elab.async false
set_option linter.all false
set_option maxRecDepth 100000
set_option maxHeartbeats 1000000
/-! Bs5: each construct's rule over data: expressions without calls. -/
namespace Bs
open PySem PySem.Spec L2

section
variable {w : Wd} {X : Cx} {W : WX} {a b c e : Expr} {ma mb mc : Mx D} {pos : Pos}

theorem PE.pick {m m1 m2 : Mx D} (h1 : PE X e (liftE w W m1)) (h2 : PE X e (liftE w W m2)) (hp : ∀ rho S, m rho S = m1 rho S ∨ m rho S = m2 rho S) : PE X e (liftE w W m) := by
  refine ⟨fun pins s σ H Q I ⟨rho, S, mu, re, rs, z⟩ => ?_⟩
  rcases hp rho S with q | q
  · exact h1.run pins s σ H Q I ⟨rho, S, mu, re, rs, by rw [← q]; exact z⟩
  · exact h2.run pins s σ H Q I ⟨rho, S, mu, re, rs, by rw [← q]; exact z⟩
theorem PE.ev {m m1 : Mx D} (h1 : PE X e (liftE w W m1)) (hp : ∀ rho S, m rho S = m1 rho S) : PE X e (liftE w W m) := PE.pick h1 h1 fun rho S => .inl (hp rho S)

/-! ### constants and names of the module -/
theorem se_non {j} : PE X (.Constant .none j pos) (liftE w W (evC .non)) := PE.imp pe_non (lift_c fun _ _ => .non)
theorem se_bl {b j} : PE X (.Constant (.bool b) j pos) (liftE w W (evC (.bl b))) := PE.imp pe_bl (lift_c fun _ _ => .bl)
theorem se_int {i j} : PE X (.Constant (.int i) j pos) (liftE w W (evC (.int i))) := PE.imp pe_int (lift_c fun _ _ => .int)
theorem se_str {x : List Nat} {j} (ok : okStr x) : PE X (.Constant (.str (S2 x)) j pos) (liftE w W (evC (.str x))) := PE.imp pe_str (lift_c fun _ _ => .str ok)
/-- a constant that is data by itself -/
def flatD : D → Option V
  | .non => some .non
  | .bl b => some (.bl b)
  | .int i => some (.int i)
  | .str x => some (.str (S2 x))
  | _ => none
theorem se_glb {x : Str} {u : Value} {v : V} {d : D} (hg : Gl X x) (hm : X.mg x = some u) (r : RelV v u) (hd : ∀ H mu, RelD w H mu d v) (hdb : (x == ("__debug__" : Str)) = false) : PE X (.Name x pos) (liftE w W (evC d)) :=
  PE.imp (pe_glob hg hm r hdb) (lift_c hd)

/-! ### operators -/
theorem se_add (ha : PE X a (liftE w W ma)) (hb : PE X b (liftE w W mb)) (hK : X.K = w.K) : PE X (.BinOp a .Add b pos) (liftE w W (ev2 ma mb addD)) :=
  op2 (pe_op (OpR.or op_add (OpR.or op_add_str (OpR.or op_cat (hK ▸ op_catA)))) ha hb) opl_add
theorem se_sub (ha : PE X a (liftE w W ma)) (hb : PE X b (liftE w W mb)) : PE X (.BinOp a .Sub b pos) (liftE w W (ev2 ma mb subD)) := op2 (pe_op op_sub ha hb) opl_sub
theorem se_mul (ha : PE X a (liftE w W ma)) (hb : PE X b (liftE w W mb)) : PE X (.BinOp a .Mult b pos) (liftE w W (ev2 ma mb mulD)) := op2 (pe_op (OpR.or op_mul op_rep) ha hb) opl_mul
theorem se_fdiv (ha : PE X a (liftE w W ma)) (hb : PE X b (liftE w W mb)) : PE X (.BinOp a .FloorDiv b pos) (liftE w W (ev2 ma mb fdivD)) := op2 (pe_op op_fdivW ha hb) opl_fdiv
theorem se_mod (ha : PE X a (liftE w W ma)) (hb : PE X b (liftE w W mb)) : PE X (.BinOp a .Mod b pos) (liftE w W (ev2 ma mb modD)) := op2 (pe_op op_mod ha hb) opl_mod
theorem se_pow (ha : PE X a (liftE w W ma)) (hb : PE X b (liftE w W mb)) : PE X (.BinOp a .Pow b pos) (liftE w W (ev2 ma mb powD)) := op2 (pe_op op_pow ha hb) opl_pow

/-! ### one operand -/
theorem op1 {t : TE} {f : D → Store → Res D} (h : PE X e t)
    (o : ∀ σ H Q, (liftE w W ma σ H fun v H1 => ∃ d S1 mu1, RelS w H1 mu1 S1 ∧ RelD w H1 mu1 d v ∧ Post w (RelD w) W σ H1 mu1 (f d S1) Q) → t σ H Q) : PE X e (liftE w W (ev1 ma f)) :=
  PE.imp h fun σ H Q z => o σ H Q (lift_ev1 (RA := RelD w) z)
theorem se_neg (ha : PE X a (liftE w W ma)) : PE X (.UnaryOp .USub a pos) (liftE w W (ev1 ma negD)) := by
  refine op1 (pe_un un_neg ha) fun σ H Q z => z.imp fun v H1 ⟨d, S1, mu1, rs, rd, q⟩ => ?_
  cases rd <;> try (exact q.elim)
  exact ⟨_, rfl, q.ok rs .int⟩
/-- truth of a value, then something -/
theorem post_tru {β γ : Type} {R : Hp → List Addr → β → γ → Prop} {σ : St} {H : Hp} {mu : List Addr} {S : Store} {d : D} {v : V} {f : Bool → Store → Res β} {Q : γ → Hp → Prop} (rs : RelS w H mu S) (r : RelD w H mu d v) (h : Post w R W σ H mu ((truD d S).bind f) Q) :
    ∃ k, TruV w.K v H k ∧ truD d S = .ok k S ∧ Post w R W σ H mu (f k S) Q := by
  have h1 := (Post.bind (Rel := relB) h)
  obtain ⟨k, t, ⟨_, _, _, _, _, _, _⟩, e⟩ := truD_ok rs r h1
  rw [e] at h
  exact ⟨k, t, e, h⟩
theorem se_not (ha : PE X a (liftE w W ma)) (hK : X.K = w.K) : PE X (.UnaryOp .Not a pos) (liftE w W (ev1 (ev1 ma truD) fun b S => .ok (.bl (!b)) S)) := by
  refine PE.ev (m1 := ev1 ma fun d S => (truD d S).bind fun b S => .ok (.bl (!b)) S) ?_ fun rho S => by simp only [ev1, Res.bind_assoc]
  refine op1 (pe_notT ha) fun σ H Q z => z.imp fun v H1 ⟨d, S1, mu1, rs, rd, q⟩ => ?_
  obtain ⟨k, t, e, q⟩ := post_tru rs rd q
  exact ⟨k, hK ▸ t, q.ok rs .bl⟩
theorem se_isn {j pos'} (ha : PE X a (liftE w W ma)) : PE X (.Compare a [.Is] [.Constant .none j pos'] pos) (liftE w W (ev1 ma fun x S => .ok (.bl (decide (x = .non))) S)) := by
  refine op1 (pe_cmp (pc_isN ha)) fun σ H Q z => z.imp fun v H1 ⟨d, S1, mu1, rs, rd, q⟩ => ?_
  have e : decide (d = .non) = decide (v = .non) := by cases rd <;> rfl
  rw [e] at q
  exact q.ok rs .bl
theorem se_isnn {j pos'} (ha : PE X a (liftE w W ma)) : PE X (.Compare a [.IsNot] [.Constant .none j pos'] pos) (liftE w W (ev1 ma fun x S => .ok (.bl (!decide (x = .non))) S)) := by
  refine op1 (pe_cmp (pc_notN ha)) fun σ H Q z => z.imp fun v H1 ⟨d, S1, mu1, rs, rd, q⟩ => ?_
  have e : decide (d = .non) = decide (v = .non) := by cases rd <;> rfl
  rw [e] at q
  exact q.ok rs .bl

/-! ### tests -/
theorem st_val (ha : PE X a (liftE w W ma)) (hK : X.K = w.K) (he : ∀ whole, isTrue a X.env whole = (do let v ← whole; standAt a.pos; holding [v] (truthy v))) : PT X a (liftT w W (ev1 ma truD)) := by
  refine PT.imp (pt_truth ha he) fun σ H Q z => (lift_ev1 (RA := RelD w) z).imp fun v H1 ⟨d, S1, mu1, rs, rd, q⟩ => ?_
  obtain ⟨k, t, q, _⟩ := truD_ok rs rd q
  exact ⟨k, hK ▸ t, q⟩
/-- a value that is a bool -/
def isBl {m : Mx D} : Prop := ∀ rho S d S', m rho S = .ok d S' → ∃ b, d = .bl b
theorem st_cmpR {op : CmpOp} {r : R2} {f : D → D → Store → Res D} (ho : OpR X (compareOp op) r) (hm : behindInMarks op b = false) (o : OpL w r f) (hb : ∀ x y S d S', f x y S = .ok d S' → ∃ b, d = .bl b) (ha : PE X a (liftE w W ma)) (hb' : PE X b (liftE w W mb)) :
    PT X (.Compare a [op] [b] pos) (liftT w W (ev1 (ev2 ma mb f) truD)) := by
  refine PT.imp (pt_cmpR ho ha hb' hm) fun σ H Q z => ?_
  have z' : liftT w W (ev2 ma mb fun x y S => (f x y S).bind truD) σ H Q := by
    obtain ⟨rho, S, mu, re, rs, z⟩ := z
    refine ⟨rho, S, mu, re, rs, ?_⟩
    have e : ev1 (ev2 ma mb f) truD rho S = ev2 ma mb (fun x y S => (f x y S).bind truD) rho S := by simp only [ev1, ev2, Res.bind_assoc]
    rw [← e]; exact z
  have q := lift_ev2 (RA := RelD w) (RB := RelD w) (fun k p r => r.mono k p) z'
  refine liftG.imp q fun x H1 q => liftG.imp q fun y H2 ⟨d1, d2, S2, mu2, rs2, r1, r2, q⟩ => ?_
  refine o W σ H2 mu2 S2 d1 d2 x y _ rs2 r1 r2 ?_
  cases e : f d1 d2 S2 with
  | ok d S' =>
    obtain ⟨k, rfl⟩ := hb _ _ _ _ _ e
    rw [e] at q
    intro v H' mu' p rs' rd k'
    cases rd
    exact ⟨k, rfl, (Post.rebase p k' q).ok rs' rfl⟩
  | exc c fs S' => rw [e] at q; exact q
  | stuck => rw [e] at q; exact q
theorem st_not {mt : Mx Bool} (ha : PT X a (liftT w W mt)) : PT X (.UnaryOp .Not a pos) (liftT w W (ev1 mt fun b S => .ok (!b) S)) := by
  refine PT.imp (pt_not ha) fun σ H Q z => (lift_ev1 (RA := relB) z).imp fun v H1 ⟨d, S1, mu1, rs, rd, q⟩ => ?_
  cases rd
  exact q.ok rs rfl
theorem PT.ev {m m1 : Mx Bool} (h1 : PT X e (liftT w W m1)) (hp : ∀ rho S, m rho S = m1 rho S) : PT X e (liftT w W m) :=
  PT.imp h1 fun σ H Q ⟨rho, S, mu, re, rs, z⟩ => ⟨rho, S, mu, re, rs, by rw [← hp]; exact z⟩
theorem PW.ev {m m1 : Mx Bool} (h1 : PW X e (liftT w W m1)) (hp : ∀ rho S, m rho S = m1 rho S) : PW X e (liftT w W m) :=
  PW.imp h1 fun σ H Q ⟨rho, S, mu, re, rs, z⟩ => ⟨rho, S, mu, re, rs, by rw [← hp]; exact z⟩
def andT (m n : Mx Bool) : Mx Bool := fun rho S => (m rho S).bind fun b S => if b = true then n rho S else .ok false S
def orT (m n : Mx Bool) : Mx Bool := fun rho S => (m rho S).bind fun b S => if b = true then .ok true S else n rho S
theorem lift_seq {α α' γ γ' : Type} {RA : Hp → List Addr → α → α' → Prop} {RC : Hp → List Addr → γ → γ' → Prop} {m : Mx α} {f : α → Mx γ} {σ : St} {H : Hp} {Q : γ' → Hp → Prop}
    (h : liftG w RC W (fun rho S => (m rho S).bind fun x S => f x rho S) σ H Q) :
    liftG w RA W m σ H fun x H1 => ∃ d rho S1 mu1, RelE w H1 mu1 rho σ ∧ RelS w H1 mu1 S1 ∧ RA H1 mu1 d x ∧ Post w RC W σ H1 mu1 (f d rho S1) Q := by
  obtain ⟨rho, S, mu, re, rs, h⟩ := h
  exact ⟨rho, S, mu, re, rs, (Post.bind (Rel := RA) h).imp fun b H1 ⟨d, S1, mu1, p, rs1, rd, k, q⟩ => ⟨d, rho, S1, mu1, re.mono k p, rs1, rd, q⟩⟩
theorem sw_and {rest : List Expr} {mt mu : Mx Bool} (ha : PT X a (liftT w W mt)) (hb : PW X (.BoolOp .And (b :: rest) pos) (liftT w W mu)) : PW X (.BoolOp .And (a :: b :: rest) pos) (liftT w W (andT mt mu)) := by
  refine PW.imp (pw_and ha hb) fun σ H Q z => (lift_seq (RA := relB) (f := fun b rho S => if b = true then mu rho S else .ok false S) z).imp fun v H1 ⟨d, rho, S1, mu1, re, rs, rd, q⟩ => ?_
  cases rd
  cases v with
  | true => exact ⟨rho, S1, mu1, re, rs, q⟩
  | false => exact Post.ok (Rel := relB) q rs rfl
theorem sw_or {rest : List Expr} {mt mu : Mx Bool} (ha : PT X a (liftT w W mt)) (hb : PW X (.BoolOp .Or (b :: rest) pos) (liftT w W mu)) : PW X (.BoolOp .Or (a :: b :: rest) pos) (liftT w W (orT mt mu)) := by
  refine PW.imp (pw_or ha hb) fun σ H Q z => (lift_seq (RA := relB) (f := fun b rho S => if b = true then .ok true S else mu rho S) z).imp fun v H1 ⟨d, rho, S1, mu1, re, rs, rd, q⟩ => ?_
  cases rd
  cases v with
  | false => exact ⟨rho, S1, mu1, re, rs, q⟩
  | true => exact Post.ok (Rel := relB) q rs rfl
theorem sw_and1 {mt : Mx Bool} (ha : PT X a (liftT w W mt)) : PW X (.BoolOp .And [a] pos) (liftT w W mt) := pw_and1 ha
theorem sw_or1 {mt : Mx Bool} (ha : PT X a (liftT w W mt)) : PW X (.BoolOp .Or [a] pos) (liftT w W mt) := pw_or1 ha

/-! ### and, or, if as values -/
theorem se_and {rest : List Expr} (ha : PE X a (liftE w W ma)) (hb : PE X (.BoolOp .And (b :: rest) pos) (liftE w W mb)) (hK : X.K = w.K) :
    PE X (.BoolOp .And (a :: b :: rest) pos) (liftE w W fun rho S => (ma rho S).bind fun x S => (truD x S).bind fun t S => if t = true then mb rho S else .ok x S) := by
  refine PE.imp (pe_andT ha hb) fun σ H Q z => (lift_seq (RA := RelD w) (f := fun x rho S => (truD x S).bind fun t S => if t = true then mb rho S else .ok x S) z).imp fun v H1 ⟨d, rho, S1, mu1, re, rs, rd, q⟩ => ?_
  obtain ⟨k, t, e, q⟩ := post_tru rs rd q
  refine ⟨k, hK ▸ t, ?_⟩
  cases k with
  | true => exact ⟨rho, S1, mu1, re, rs, q⟩
  | false => exact Post.ok (Rel := RelD w) q rs rd
theorem se_or {rest : List Expr} (ha : PE X a (liftE w W ma)) (hb : PE X (.BoolOp .Or (b :: rest) pos) (liftE w W mb)) (hK : X.K = w.K) :
    PE X (.BoolOp .Or (a :: b :: rest) pos) (liftE w W fun rho S => (ma rho S).bind fun x S => (truD x S).bind fun t S => if t = true then .ok x S else mb rho S) := by
  refine PE.imp (pe_orT ha hb) fun σ H Q z => (lift_seq (RA := RelD w) (f := fun x rho S => (truD x S).bind fun t S => if t = true then .ok x S else mb rho S) z).imp fun v H1 ⟨d, rho, S1, mu1, re, rs, rd, q⟩ => ?_
  obtain ⟨k, t, e, q⟩ := post_tru rs rd q
  refine ⟨k, hK ▸ t, ?_⟩
  cases k with
  | false => exact ⟨rho, S1, mu1, re, rs, q⟩
  | true => exact Post.ok (Rel := RelD w) q rs rd
theorem se_ite {mt : Mx Bool} (hc : PT X c (liftT w W mt)) (ha : PE X a (liftE w W ma)) (hb : PE X b (liftE w W mb)) : PE X (.IfExp c a b pos) (liftE w W fun rho S => (mt rho S).bind fun t S => if t = true then ma rho S else mb rho S) := by
  refine PE.imp (pe_ifExp hc ha hb) fun σ H Q z => (lift_seq (RA := relB) (f := fun t rho S => if t = true then ma rho S else mb rho S) z).imp fun v H1 ⟨d, rho, S1, mu1, re, rs, rd, q⟩ => ?_
  cases rd
  cases v with
  | true => exact ⟨rho, S1, mu1, re, rs, q⟩
  | false => exact ⟨rho, S1, mu1, re, rs, q⟩

/-! ### displays -/
theorem sa_nil : PA X [] (liftA w W fun _ S => .ok [] S) := PA.imp pa_nil fun σ H Q ⟨rho, S, mu, re, rs, z⟩ => Post.ok (Rel := RelDs w) z rs .nil
theorem sa_cons {es : List Expr} {ms : Mx (List D)} (ha : PE X a (liftE w W ma)) (hr : PA X es (liftA w W ms)) (hs : starEach (a :: es) X.env = (false, eval a X.env) :: starEach es X.env) : PA X (a :: es) (liftA w W (ev2 ma ms fun x xs S => .ok (x :: xs) S)) := by
  refine PA.imp (pa_cons ha hr hs) fun σ H Q z => ?_
  have q := lift_ev2 (RA := RelD w) (RB := RelDs w) (fun k p r => r.mono k p) z
  exact q.imp fun x H1 q => liftG.imp q fun xs H2 ⟨d, ds, S2, mu2, rs2, r1, r2, q⟩ => Post.ok (Rel := RelDs w) q rs2 (.cons r1 r2)
theorem se_tup {es : List Expr} {ms : Mx (List D)} {x1} (h : PA X es (liftA w W ms)) : PE X (.Tuple es x1 pos) (liftE w W (ev1 ms fun xs S => if xs.length ≤ sizeLine then .ok (.tup xs) S else .stuck)) := by
  refine PE.imp (pe_tup h) fun σ H Q z => (lift_ev1 (RA := RelDs w) z).imp fun vs H1 ⟨ds, S1, mu1, rs, rd, q⟩ => ?_
  split at q
  · rename_i hl
    exact ⟨by rw [← rd.length]; exact hl, fun p hp => post_tup rs rd hl q hp⟩
  · exact q.elim
theorem se_lst {es : List Expr} {ms : Mx (List D)} (h : PA X es (liftA w W ms)) : PE X (.List es pos) (liftE w W (ev1 ms fun xs S => if xs.length ≤ sizeLine then alloc (.lst xs) S else .stuck)) := by
  refine PE.imp (pe_lst h) fun σ H Q z => (lift_ev1 (RA := RelDs w) z).imp fun vs H1 ⟨ds, S1, mu1, rs, rd, q⟩ => ?_
  split at q
  · rename_i hl
    exact ⟨by rw [← rd.length]; exact hl, fun p hp => post_lst rs rd hl q hp⟩
  · exact q.elim
/-- a new object of the store, any -/
theorem post_new {σ : St} {H : Hp} {mu : List Addr} {S : Store} {o : O} {u : HO} {Q : VK} (rs : RelS w H mu S) (h : Post w (RelD w) W σ H mu (alloc o S) Q) {p : Addr} (hp : H p = none) (ho : RelO w (upd H p u) (mu ++ [p]) p o) : Q (.ref p) (upd H p u) := by
  refine h _ _ (mu ++ [p]) (List.prefix_append _ _) (rs.new hp ho) (.ref ?_) (Keep.new hp)
  rw [← rs.len]
  simp
theorem se_dict0 : PE X (.Dict [] [] pos) (liftE w W fun _ S => alloc (.dic false []) S) := by
  refine PE.imp pe_dnewK fun σ H Q ⟨rho, S, mu, re, rs, z⟩ p hp => ?_
  exact post_new rs z hp ⟨[], .nil, List.nodup_nil, by simp, upd_same⟩
end
end Bs

set_option Elab.async false
set_option linter.all false
set_option maxRecDepth 100000
set_option maxHeartbeats 1000000
/-! Bs6: calls, attributes, subscripts. -/
namespace Bs
open PySem PySem.Spec L2

/-! ### no star among arguments -/
def notStar : Expr → Bool
  | .Starred .. => false
  | _ => true
theorem star_cons {e : Expr} {es : List Expr} {env : PySem.Env} (h : notStar e = true) : starEach (e :: es) env = (false, eval e env) :: starEach es env := by
  cases e <;> first | rfl | cases h
theorem star_any {es : List Expr} {env : PySem.Env} {pos : Pos} : es.all notStar = true → (backTo pos (starEach es env)).any (·.1) = false := by
  induction es with
  | nil => intro _; rfl
  | cons e es ih =>
    intro h
    rw [List.all_cons, Bool.and_eq_true] at h
    rw [star_cons h.1]
    show (false || (backTo pos (starEach es env)).any (·.1)) = false
    rw [ih h.2]
    rfl
theorem star_all {es : List Expr} {env : PySem.Env} {pos : Pos} (h : es.all notStar = true) : (backTo pos (starEach es env)).all (fun x => !x.1) = true := by
  have := star_any (env := env) (pos := pos) h
  rw [List.all_eq_not_any_not]
  simp only [Bool.not_not]
  rw [this]
  rfl
/-- the receiver of a method, of an attribute -/
def plainBase : Expr → Bool
  | .Call (.Name _ _) [] [] _ => false
  | _ => true
theorem base_ok {o : Expr} {m : Str} {env : PySem.Env} {whole : Sem Value} (h : plainBase o = true) : attributeBase o m env whole = whole := by
  unfold attributeBase
  split
  · rename_i id p pos
    cases h
  · rfl

/-! ### what a def promises, over data -/
def spOf (w : Wd) (n : Nat) (m : List D → Store → Res D) : Sp := fun vs H Q E =>
  vs.length = n ∧ ∃ ds S mu, RelDs w H mu ds vs ∧ RelS w H mu S ∧ Post w (RelD w) (fun c d _ H' => E c d H') [] H mu (m ds S) Q
/-- the def at f is called -/
structure FnM (w : Wd) (X : Cx) (k : Nat) (m : List D → Store → Res D) (f : Addr) (fd : FuncData) (ps : List Str) : Prop where
  ok : FnOk X.prog X.w X.K X.mg X.base (L2.CX X.prog X.w) k f fd ps (spOf w ps.length m)
  bind : Binds X.K fd ps []
  kp : PySem.W.keepIn X.K (.ref f) = true
  len : ∀ ds S, ds.length ≠ ps.length → m ds S = .stuck
theorem post_call {w : Wd} {W : WX} {σ : St} {H : Hp} {mu : List Addr} {S : Store} {n : Nat} {m : List D → Store → Res D} {ds : List D} {vs : List V} {Q : VK} (len : ∀ ds S, ds.length ≠ n → m ds S = .stuck) (rs : RelS w H mu S) (rd : RelDs w H mu ds vs) (h : Post w (RelD w) W σ H mu (m ds S) Q) :
    spOf w n m vs H Q (WE W σ) := by
  have hl : ds.length = n := by
    by_cases e : ds.length = n
    · exact e
    · rw [len ds S e] at h; exact h.elim
  refine ⟨by rw [← rd.length]; exact hl, ds, S, mu, rd, rs, ?_⟩
  cases e : m ds S with
  | ok d S' => rw [e] at h; exact h
  | exc c fs S' => rw [e] at h; exact h
  | stuck => rw [e] at h; exact h

section
variable {w : Wd} {X : Cx} {W : WX} {a b c e o : Expr} {ma mb mc mo : Mx D} {pos apos p : Pos} {es : List Expr} {ms : Mx (List D)}

/-- no argument -/
theorem lift_nil {α β : Type} {RC : Hp → List Addr → α → β → Prop} {f : List D → Store → Res α} {σ : St} {H : Hp} {Q : β → Hp → Prop} (h : liftG w RC W (ev1 (fun _ S => .ok [] S) f) σ H Q) :
    ∃ rho S mu, RelE w H mu rho σ ∧ RelS w H mu S ∧ Post w RC W σ H mu (f [] S) Q := h
theorem se_call0 {k : Nat} {m : List D → Store → Res D} {f : Addr} {fd : FuncData} {ps : List Str} {x : Str} (F : FnM w X k m f fd ps) (hr : Room k X.A) (tk : Takes X W) (hg : Gl X x) (hm : X.mg x = some (.ref f)) (hdb : (x == ("__debug__" : Str)) = false) :
    PE X (.Call (.Name x p) [] [] pos) (liftE w W (ev1 (fun _ S => .ok [] S) m)) := by
  refine ⟨fun pins s σ H Q I h => ?_⟩
  obtain ⟨rho, S, mu, re, rs, q⟩ := lift_nil h
  refine wpAny_Call_Name_kw (ld_glob I hg hm ?_ hdb)
  refine PySem.W.callWith_K0 I.kIn F.kp ?_
  exact run_fnS (us := []) (vs := []) F.ok hr F.bind (passAt tk σ) I .nil (post_call F.len rs .nil q)
theorem se_call {k : Nat} {m : List D → Store → Res D} {f : Addr} {fd : FuncData} {ps : List Str} {x : Str} (F : FnM w X k m f fd ps) (hr : Room k X.A) (tk : Takes X W) (hg : Gl X x) (hm : X.mg x = some (.ref f)) (hns : (e :: es).all notStar = true) (ha : PA X (e :: es) (liftA w W ms)) (hdb : (x == ("__debug__" : Str)) = false) :
    PE X (.Call (.Name x p) (e :: es) [] pos) (liftE w W (ev1 ms m)) := by
  refine ⟨fun pins s σ H Q I h => ?_⟩
  have h' := lift_ev1 (RA := RelDs w) h
  refine wpAny_Call_Name_kw (ld_glob I hg hm ?_ hdb)
  rw [List.all_cons, Bool.and_eq_true] at hns
  refine PySem.W.callWith_K (h₀ := X.base) I.ok.mod.kin F.kp (thn (ha.run pos pins s σ H _ I h') fun us s1 ⟨vs, H1, I1, r, ⟨ds, S1, mu1, rs, rd, q⟩⟩ => ⟨I1.kIn, ?_⟩) (star_cons hns.1) (star_any hns.2)
  exact run_fnS F.ok hr F.bind (passAt tk σ) I1 r (post_call F.len rs rd q)

/-! ### methods of own classes, by the receiver's class -/
theorem RelF.get {H : Hp} {mu : List Addr} {fs : List (Nm × D)} {gs : List (Str × V)} (r : RelF w H mu fs gs) (x : Nm) : match flget fs x with
    | some d => ∃ v, gs.lookup (S2 x) = some v ∧ RelD w H mu d v
    | none => gs.lookup (S2 x) = none := by
  induction r with
  | nil => rfl
  | cons a b ih =>
    rename_i y d v fs gs
    unfold flget at ih ⊢
    by_cases hx : y = x
    · subst hx
      simp only [List.find?_cons, decide_true, Option.map_some, List.lookup_cons, beq_self_eq_true]
      exact ⟨v, rfl, a⟩
    · have hs : (S2 x == S2 y) = false := by
        rw [beq_eq_false_iff_ne]
        exact fun z => hx (S2_inj.mp z).symm
      simp only [List.find?_cons, decide_eq_false hx, List.lookup_cons, hs]
      exact ih
theorem RelF.put {H : Hp} {mu : List Addr} {fs : List (Nm × D)} {gs : List (Str × V)} {d : D} {v : V} (rd : RelD w H mu d v) (x : Nm) (r : RelF w H mu fs gs) : RelF w H mu (flput fs x d) (putF (S2 x) v gs) := by
  induction r with
  | nil => exact .cons rd .nil
  | cons a b ih =>
    rename_i y d' v' fs gs
    unfold flput putF
    by_cases hx : y = x
    · subst hx
      rw [if_pos rfl, if_pos rfl]
      exact .cons rd b
    · rw [if_neg hx, if_neg fun z => hx (S2_inj.mp z)]
      exact .cons a ih
theorem RelF.len {H : Hp} {mu : List Addr} {fs : List (Nm × D)} {gs : List (Str × V)} (r : RelF w H mu fs gs) : fs.length = gs.length := by
  induction r with
  | nil => rfl
  | cons _ _ ih => simp [ih]
/-- the class of an instance of the store -/
theorem RelS.ins {H : Hp} {mu : List Addr} {S : Store} {n c : Nat} {fs : List (Nm × D)} {v : V} (rs : RelS w H mu S) (r : RelD w H mu (.ref n) v) (e : S[n]? = some (.ins c fs)) : ∃ a dx gs, v = .ref a ∧ mu[n]? = some a ∧ RelF w H mu fs gs ∧ H a = some (.ins (w.cl c) dx gs) ∧ H dx = some (.own a) := by
  cases r with
  | ref hm =>
    obtain ⟨dx, gs, h1, h2, h3⟩ := rs.obj _ _ _ e hm
    exact ⟨_, dx, gs, rfl, hm, h1, h2, h3⟩
/-- what a program's classes are -/
structure ClsM (w : Wd) (X : Cx) (G : Lang) (k : Nat) : Prop where
  cls : ∀ c m f, G.meth c m = some f → Cls X.K (w.cl c)
  meth : ∀ c m f, G.meth c m = some f → ∃ fa fd ps, Meth X.K (w.cl c) (S2 m) fa ∧ FnM w X k (G.call f) fa fd ps
  fld : ∀ c f, f ∈ G.fld c → Cls X.K (w.cl c) ∧ NoAttr X.K (w.cl c) (S2 f)
  mkr : ∀ c f, G.init c = some f → ∃ fa fd ps, Mk X.K (w.cl c) fa ∧ FnM w X k (G.call f) fa fd ps
/-- only methods of own classes -/
def ownM (G : Lang) (m : Nm) (x : D) (S : Store) : Res MK := (methOf G m x S).bind fun k S => match k with
  | .own c f => .ok (.own c f) S
  | _ => .stuck
def evM (G : Lang) (mt : D → Store → Res MK) (mo : Mx D) (m : Nm) (ms : Mx (List D)) : Mx D := fun rho S => (mo rho S).bind fun x S => (mt x S).bind fun k S => (ms rho S).bind fun xs S => methD G m k x xs S
theorem ownM_eq {G : Lang} {m : Nm} {x : D} {S : Store} : ownM G m x S = match x with
    | .ref n => match S[n]? with
      | some (.ins c fs) => if flget fs m = none then match G.meth c m with
        | some f => .ok (.own c f) S
        | none => .stuck
        else .stuck
      | _ => .stuck
    | _ => .stuck := by
  unfold ownM methOf
  cases x with
  | str z => unfold hasM; dsimp only; split <;> rfl
  | ref n =>
    dsimp only
    cases S[n]? with
    | none => rfl
    | some o =>
      cases o with
      | lst xs => unfold hasM; dsimp only; split <;> rfl
      | dic lk kvs => unfold hasM; dsimp only; split <;> rfl
      | dit kvs => unfold hasM; dsimp only; split <;> rfl
      | ins c fs =>
        dsimp only
        split
        · cases G.meth c m <;> rfl
        · rfl
      | _ => rfl
  | _ => rfl
theorem ownM_ok {G : Lang} {m : Nm} {x : D} {S S' : Store} {k : MK} (h : ownM G m x S = .ok k S') : ∃ n c f fs, x = .ref n ∧ S[n]? = some (.ins c fs) ∧ flget fs m = none ∧ G.meth c m = some f ∧ k = .own c f ∧ S' = S := by
  rw [ownM_eq] at h
  split at h <;> try (cases h)
  rename_i n
  split at h <;> try (cases h)
  rename_i c fs e
  split at h
  · rename_i e1
    split at h
    · rename_i f e2
      cases h
      exact ⟨n, c, f, fs, rfl, e, e1, e2, rfl, rfl⟩
    · cases h
  · cases h
theorem ownM_cases {G : Lang} {m : Nm} {x : D} {S : Store} : ownM G m x S = .stuck ∨ ∃ k, ownM G m x S = .ok k S := by
  rw [ownM_eq]
  split <;> try (exact .inl rfl)
  split <;> try (exact .inl rfl)
  split
  · split
    · exact .inr ⟨_, rfl⟩
    · exact .inl rfl
  · exact .inl rfl
/-- the step from the receiver to the method -/
theorem own_step {G : Lang} {k : Nat} {m : Nm} (CM : ClsM w X G k) {pins : List (Addr × Obj)} {s1 : Shared} {σ : St} {H1 : Hp} {mu1 : List Addr} {S1 : Store} {d : D} {v : V} {u : Value} {γ γ' : Type} {RC : Hp → List Addr → γ → γ' → Prop} {f : MK → Store → Res γ} {Q : γ' → Hp → Prop} {pl : Sem Bool}
    {E : Value → Shared → Prop} {R : Value × List Value → Shared → Prop} (I1 : Inv X pins σ H1 s1) (rv : RelV v u) (rs : RelS w H1 mu1 S1) (rd : RelD w H1 mu1 d v) (h : Post w RC W σ H1 mu1 ((ownM G m d S1).bind f) Q)
    (hR : ∀ (a : Addr) (c g : Nat) (fa : Addr) (fd : FuncData) (ps : List Str), v = .ref a → u = .ref a → FnM w X k (G.call g) fa fd ps → PySem.W.keepIn X.K (.ref fa) = true → Post w RC W σ H1 mu1 (f (.own c g) S1) Q → R (.ref fa, [.ref a]) s1) :
    wpAny (model X.prog X.w) X.A (getMethod u (S2 m) pl) R E s1 := by
  rcases ownM_cases (G := G) (m := m) (x := d) (S := S1) with e | ⟨mk, e⟩
  · rw [e] at h; exact h.elim
  · obtain ⟨n, c, g, fs, rfl, e1, e2, e3, rfl, _⟩ := ownM_ok e
    obtain ⟨a, dx, gs, rfl, hm, rf, ha, hdx⟩ := rs.ins rd e1
    obtain ⟨fa, fd, ps, M, F⟩ := CM.meth _ _ _ e3
    obtain rfl : u = Value.ref a := rv
    have l := rf.get m
    rw [e2] at l
    rw [e] at h
    exact getmeth_ok I1 ha (CM.cls _ _ _ e3) M l (hR a c g fa fd ps rfl rfl F M.kp h)
theorem mline {o : Expr} {m : Str} {args : List Expr} {env : PySem.Env} (hb : plainBase o = true) (hns : args.all notStar = true) (hl : (apos.endLine == pos.line) = true) (hn : args.length < 30) :
    eval (.Call (.Attribute o m apos) args [] pos) env = (do
      let ov ← eval o env
      standAt apos.atName
      let (f, first) ← holding [ov] (getMethod ov m (plainOf o env))
      callWith pos f first (backTo pos (starEach args env)) (backToKw pos (keywordEach [] env))) := by
  show (do
    let ov ← attributeBase o m env (eval o env)
    standAt apos.atName
    methodCall o m apos pos env ov (args.length + ([] : List Keyword).length) (backTo pos (starEach args env)) (backToKw pos (keywordEach [] env))) = _
  rw [base_ok hb]
  have hf : methodCallForm (args.length + ([] : List Keyword).length) (backTo pos (starEach args env)) (backToKw pos (keywordEach [] env)) = true := by
    unfold methodCallForm
    rw [star_all hns]
    simp only [Bool.true_and]
    show (true && decide (args.length + 0 + 0 < 30)) = true
    rw [Bool.true_and, decide_eq_true]
    omega
  congr 1
  funext ov
  congr 1
  funext _
  exact mcall_line hf hl
theorem se_meth {G : Lang} {k : Nat} {m : Nm} (CM : ClsM w X G k) (hr : Room k X.A) (tk : Takes X W) (ho : PE X o (liftE w W mo)) (ha : PA X (e :: es) (liftA w W ms)) (hb : plainBase o = true) (hns : (e :: es).all notStar = true) (hl : (apos.endLine == pos.line) = true) (hn : (e :: es).length < 30) :
    PE X (.Call (.Attribute o (S2 m) apos) (e :: es) [] pos) (liftE w W (evM G (ownM G m) mo m ms)) := by
  refine ⟨fun pins s σ H Q I h => ?_⟩
  obtain ⟨rho, S, mu, re, rs, z⟩ := h
  refine PySem.W.methodCall_KW (pl := plainOf o X.env) (thn (ho.run pins s σ H _ I ⟨rho, S, mu, re, rs, Post.bind (Rel := RelD w) z⟩) fun u s1 ⟨x, H1, I1, rx, d, S1, mu1, p1, rs1, rd, k1, q⟩ => ?_) (mline hb hns hl hn)
  rw [List.all_cons, Bool.and_eq_true] at hns
  refine own_step CM I1 rx rs1 rd q fun a c g fa fd ps ex eu F kp q => ?_
  subst ex
  have q' := Post.bind (Rel := RelDs w) q
  refine PySem.W.callWith_K (first := [.ref a]) (h₀ := X.base) I.ok.mod.kin kp (thn (ha.run pos pins s1 σ H1 _ I1 ⟨rho, S1, mu1, re.mono k1 p1, rs1, q'⟩) fun us s2 ⟨vs, H2, I2, r, ds, S2', mu2, p2, rs2, rds, k2, q2⟩ => ⟨I2.kIn, ?_⟩) (star_cons hns.1) (star_any hns.2)
  exact run_fnS (us := .ref a :: us) (vs := .ref a :: vs) F.ok hr F.bind (passAt tk σ) I2 (.cons rfl r) (post_call F.len rs2 (.cons (rd.mono k2 p2) rds) q2)
theorem se_meth0 {G : Lang} {k : Nat} {m : Nm} (CM : ClsM w X G k) (hr : Room k X.A) (tk : Takes X W) (ho : PE X o (liftE w W mo)) (hb : plainBase o = true) (hl : (apos.endLine == pos.line) = true) :
    PE X (.Call (.Attribute o (S2 m) apos) [] [] pos) (liftE w W (evM G (ownM G m) mo m fun _ S => .ok [] S)) := by
  refine ⟨fun pins s σ H Q I h => ?_⟩
  obtain ⟨rho, S, mu, re, rs, z⟩ := h
  refine PySem.W.methodCall_KW (pl := plainOf o X.env) (thn (ho.run pins s σ H _ I ⟨rho, S, mu, re, rs, Post.bind (Rel := RelD w) z⟩) fun u s1 ⟨x, H1, I1, rx, d, S1, mu1, p1, rs1, rd, k1, q⟩ => ?_) (mline hb rfl hl (by show 0 < 30; decide))
  refine own_step CM I1 rx rs1 rd q fun a c g fa fd ps ex eu F kp q => ?_
  subst ex
  exact PySem.W.callWith_K0 (first := [.ref a]) I1.kIn kp (run_fnS (us := [.ref a]) (vs := [.ref a]) F.ok hr F.bind (passAt tk σ) I1 (.cons rfl .nil) (post_call F.len rs1 (.cons rd .nil) q))

/-! ### a new instance -/
def mkM (G : Lang) (c : Nat) (xs : List D) (S : Store) : Res D := match G.init c with
  | some f => (alloc (.ins c []) S).bind fun x S => (G.call f (x :: xs) S).bind fun r S => if r = .non then .ok x S else .stuck
  | none => .stuck
theorem make_step {G : Lang} {k : Nat} {c : Nat} (CM : ClsM w X G k) (hr : Room (k + 1) X.A) (tk : Takes X W) {pins : List (Addr × Obj)} {s1 : Shared} {σ : St} {H1 : Hp} {mu1 : List Addr} {S1 : Store} {ds : List D} {vs : List V} {us : List Value} {Q : VK}
    (I1 : Inv X pins σ H1 s1) (rv : Vals vs us) (rs : RelS w H1 mu1 S1) (rd : RelDs w H1 mu1 ds vs) (h : Post w (RelD w) W σ H1 mu1 (mkM G c ds S1) Q) : wpAny (model X.prog X.w) X.A (call (.ref (w.cl c)) us) (EP X pins σ Q) X.xe s1 := by
  unfold mkM at h
  split at h
  · rename_i f e
    obtain ⟨fa, fd, ps, M, F⟩ := CM.mkr _ _ e
    have key : ∀ x dx, H1 x = none → H1 dx = none → dx ≠ x → spOf w ps.length (G.call f) (.ref x :: vs) (upd (upd H1 dx (.own x)) x (.ins (w.cl c) dx [])) (fun v H2 => v = .non ∧ Q (.ref x) H2) (WE W σ) := fun x dx hx hdx ne => by
      have hx1 : (upd H1 dx (.own x)) x = none := by rw [upd_ne (Ne.symm ne)]; exact hx
      have rs1 : RelS w (upd H1 dx (.own x)) mu1 S1 := rs.other hdx
      have kk : Keep H1 (upd (upd H1 dx (.own x)) x (.ins (w.cl c) dx [])) := (Keep.new hdx).trans (Keep.new hx1)
      have rs2 : RelS w (upd (upd H1 dx (.own x)) x (.ins (w.cl c) dx [])) (mu1 ++ [x]) (S1 ++ [.ins c []]) := rs1.new hx1 ⟨dx, [], .nil, upd_same, by rw [upd_ne ne]; exact upd_same⟩
      have rx : RelD w (upd (upd H1 dx (.own x)) x (.ins (w.cl c) dx [])) (mu1 ++ [x]) (.ref S1.length) (.ref x) := .ref (by rw [← rs.len]; simp)
      refine post_call F.len rs2 (.cons rx (rd.mono kk (List.prefix_append _ _))) ?_
      have h2 : Post w (RelD w) W σ H1 mu1 ((G.call f (.ref S1.length :: ds) (S1 ++ [.ins c []])).bind fun r S => if r = .non then .ok (.ref S1.length) S else .stuck) Q := h
      refine (Post.bind (Rel := RelD w) (Post.rebase (List.prefix_append _ _) kk h2)).imp fun v H2 ⟨r, S2', mu2, p2, rs2', rd2, k2, q2⟩ => ?_
      split at q2
      · rename_i e2
        subst e2
        cases rd2
        exact ⟨rfl, Post.ok (Rel := RelD w) q2 rs2' (rx.mono k2 p2)⟩
      · exact q2.elim
    have hq := key (s1.heap.objs.size + 1) s1.heap.objs.size (I1.hok.fresh (Nat.le_succ _)) (I1.hok.fresh (Nat.le_refl _)) (Nat.ne_of_lt (Nat.lt_succ_self _))
    have I2 := Inv.made (C := w.cl c) I1
    have r2 : Vals (V.ref (s1.heap.objs.size + 1) :: vs) (Value.ref (s1.heap.objs.size + 1) :: us) := .cons rfl rv
    have hl : (Value.ref (s1.heap.objs.size + 1) :: us).length = ps.length := by
      have e := r2.length
      rw [hq.1] at e
      exact e.symm
    have b := F.bind _ (Value.ref (s1.heap.objs.size + 1) :: us) I2.kIn (by rw [List.append_nil]; exact hl)
    rw [List.append_nil] at b
    refine wpAny_call (make_map (f := fa) I1.kIn M.makes M.init (beq_iff_eq.mp M.fn) (codeAny_mono (F.ok.run _ X.stack _ _ ⟨Value.ref (s1.heap.objs.size + 1) :: us, []⟩ (Value.ref (s1.heap.objs.size + 1) :: us) _ _ (WE W σ) (hr.make (w.cl c) us [])
      (I2.env0.make (w.cl c) us []) b r2 hq) fun r s' hq' => ?_))
    cases r with
    | error e => exact passAt tk σ pins _ _ e s' I2 hq'
    | ok fl =>
      cases fl with
      | ret u =>
        obtain ⟨v, H', I3, rv', ev, q3⟩ := I2.after hq'
        subst ev
        exact ⟨rv', ⟨V.ref (s1.heap.objs.size + 1), H', I3, rfl, q3⟩⟩
      | next => exact False.elim hq'
      | brk => exact False.elim hq'
      | cont => exact False.elim hq'
  · exact h.elim
theorem se_make {G : Lang} {k : Nat} {c : Nat} {x : Str} (CM : ClsM w X G k) (hr : Room (k + 1) X.A) (tk : Takes X W) (hg : Gl X x) (hm : X.mg x = some (.ref (w.cl c))) (hk : PySem.W.keepIn X.K (.ref (w.cl c)) = true) (hns : (e :: es).all notStar = true) (ha : PA X (e :: es) (liftA w W ms)) (hdb : (x == ("__debug__" : Str)) = false) :
    PE X (.Call (.Name x p) (e :: es) [] pos) (liftE w W (ev1 ms (mkM G c))) := by
  refine ⟨fun pins s σ H Q I h => ?_⟩
  have h' := lift_ev1 (RA := RelDs w) h
  refine wpAny_Call_Name_kw (ld_glob I hg hm ?_ hdb)
  rw [List.all_cons, Bool.and_eq_true] at hns
  refine PySem.W.callWith_K (h₀ := X.base) I.ok.mod.kin hk (thn (ha.run pos pins s σ H _ I h') fun us s1 ⟨vs, H1, I1, r, ⟨ds, S1, mu1, rs, rd, q⟩⟩ => ⟨I1.kIn, ?_⟩) (star_cons hns.1) (star_any hns.2)
  exact make_step CM hr tk I1 r rs rd q
theorem se_make0 {G : Lang} {k : Nat} {c : Nat} {x : Str} (CM : ClsM w X G k) (hr : Room (k + 1) X.A) (tk : Takes X W) (hg : Gl X x) (hm : X.mg x = some (.ref (w.cl c))) (hk : PySem.W.keepIn X.K (.ref (w.cl c)) = true) (hdb : (x == ("__debug__" : Str)) = false) :
    PE X (.Call (.Name x p) [] [] pos) (liftE w W (ev1 (fun _ S => .ok [] S) (mkM G c))) := by
  refine ⟨fun pins s σ H Q I h => ?_⟩
  obtain ⟨rho, S, mu, re, rs, q⟩ := lift_nil h
  refine wpAny_Call_Name_kw (ld_glob I hg hm ?_ hdb)
  exact PySem.W.callWith_K0 I.kIn hk (make_step CM hr tk I .nil rs .nil q)

/-! ### attributes -/
theorem se_attr {G : Lang} {k : Nat} {f : Nm} (CM : ClsM w X G k) (ha : PE X a (liftE w W ma)) (hb : plainBase a = true) : PE X (.Attribute a (S2 f) pos) (liftE w W (ev1 ma (attrD G f))) := by
  refine op1 (pe_fld ha (base_ok hb)) fun σ H Q z => z.imp fun v H1 ⟨d, S1, mu1, rs, rd, q⟩ => ?_
  unfold attrD at q
  split at q
  · rename_i n
    split at q
    · rename_i c fs e
      split at q
      · rename_i hf
        obtain ⟨a, dx, gs, rfl, hm, rf, ha, hdx⟩ := rs.ins rd e
        have l := rf.get f
        cases e2 : flget fs f with
        | none => rw [e2] at q; exact q.elim
        | some d =>
          rw [e2] at l q
          obtain ⟨v, l1, l2⟩ := l
          exact ⟨a, w.cl c, dx, gs, v, rfl, ha, (CM.fld _ _ hf).1, (CM.fld _ _ hf).2, l1, Post.ok (Rel := RelD w) q rs l2⟩
      · exact q.elim
    · rename_i c fs e
      cases rd with
      | ref hm => exact (rs.obj _ _ _ e hm).elim
    · exact q.elim
  · exact q.elim

/-! ### subscripts -/
theorem RelDs.at {H : Hp} {mu : List Addr} {ds : List D} {vs : List V} {i : Int} {d : D} (r : RelDs w H mu ds vs) (h : atI ds i = some d) : ∃ v, atI vs i = some v ∧ RelD w H mu d v := by
  unfold atI at h ⊢
  rw [← r.length]
  cases e : ixN ds.length i with
  | none => rw [e] at h; cases h
  | some j =>
    rw [e] at h
    exact r.get h
theorem at_map {α β : Type} {xs : List α} {f : α → β} {i : Int} : atI (xs.map f) i = (atI xs i).map f := by
  unfold atI
  rw [List.length_map]
  cases ixN xs.length i with
  | none => rfl
  | some j => simp
def idxS (x k : D) (S : Store) : Res D := match x with
  | .tup xs => match k with
    | .int i => optD (atI xs i) S
    | _ => .stuck
  | .str z => match k with
    | .int i => optD ((atI z i).map fun c => .str [c]) S
    | _ => .stuck
  | .scr ns => match k with
    | .int i => optD ((atI ns i).map .int) S
    | _ => .stuck
  | .ref n => match S[n]? with
    | some (.lst xs) => match k with
      | .int i => optD (atI xs i) S
      | _ => .stuck
    | _ => .stuck
  | _ => .stuck
def idxK (x k : D) (S : Store) : Res D := match x with
  | .ref n => match S[n]? with
    | some (.dic _ kvs) => if isKey k then optD (dget kvs k) S else .stuck
    | _ => .stuck
  | _ => .stuck
def idxT (x k : D) (S : Store) : Res D := match x with
  | .ref n => match S[n]? with
    | some (.dit kvs) => if isKeyT k then optD (dget kvs k) S else .stuck
    | _ => .stuck
  | _ => .stuck
theorem idx_pick (x k : D) (S : Store) : idxD x k S = idxS x k S ∨ idxD x k S = idxK x k S ∨ idxD x k S = idxT x k S := by
  unfold idxD idxS idxK idxT
  cases x with
  | ref n =>
    dsimp only
    cases e : S[n]? with
    | none => exact .inl rfl
    | some o =>
      cases o with
      | dic lk kvs => exact .inr (.inl rfl)
      | dit kvs => exact .inr (.inr rfl)
      | _ => exact .inl rfl
  | _ => cases k <;> exact .inl rfl
theorem opt_post {H : Hp} {mu : List Addr} {S : Store} {σ : St} {o : Option D} {Q : VK} (h : Post w (RelD w) W σ H mu (optD o S) Q) : ∃ d, o = some d ∧ Post w (RelD w) W σ H mu (.ok d S) Q := by
  cases o with
  | none => exact h.elim
  | some d => exact ⟨d, rfl, h⟩
theorem okStr.one {x : List Nat} {c : Nat} (h : okStr x) (hc : c ∈ x) : okStr [c] := ⟨by show 1 ≤ sizeLine; decide, fun d hd => by
  have : d = c := by simpa using hd
  subst this; exact h.2 d hc⟩
theorem at_mem {α : Type} {xs : List α} {i : Int} {x : α} (h : atI xs i = some x) : x ∈ xs := by
  unfold atI at h
  cases e : ixN xs.length i with
  | none => rw [e] at h; cases h
  | some j => rw [e] at h; exact List.mem_of_getElem? h
theorem opl_idxS : OpL w (rIx w.K) idxS := by
  intro W σ H mu S x y v u Q rs rx ry h
  unfold idxS at h
  cases rx <;> try (exact h.elim)
  · rename_i z ok
    cases ry <;> try (exact h.elim)
    obtain ⟨d, e, h⟩ := opt_post h
    cases e2 : atI z _ with
    | none => rw [e2] at e; cases e
    | some c =>
      rw [e2] at e; cases e
      refine .inr (.inr ⟨S2 z, _, c, rfl, rfl, by simpa using ok.1, by simpa using e2, ?_⟩)
      exact Post.ok (Rel := RelD w) h rs (.str (x := [c]) (ok.one (at_mem e2)))
  · rename_i a vs ds t r l
    cases ry <;> try (exact h.elim)
    obtain ⟨d, e, h⟩ := opt_post h
    obtain ⟨v, e2, rd⟩ := r.at e
    exact .inr (.inl ⟨a, vs, _, v, rfl, rfl, t.sq, e2, Post.ok (Rel := RelD w) h rs rd⟩)
  · rename_i n a hm
    dsimp only at h
    split at h
    · rename_i xs es
      cases ry <;> try (exact h.elim)
      obtain ⟨d, e, h⟩ := opt_post h
      obtain ⟨vs, r, ha, _⟩ := rs.obj _ _ _ es hm
      obtain ⟨v, e2, rd⟩ := r.at e
      exact .inl ⟨a, vs, _, v, rfl, rfl, SqL.of ha, e2, Post.ok (Rel := RelD w) h rs rd⟩
    · exact h.elim
  · cases ry <;> try (exact h.elim)
    obtain ⟨d, e, h⟩ := opt_post h
    cases e2 : atI w.ns0 _ with
    | none => rw [e2] at e; cases e
    | some c =>
      rw [e2] at e; cases e
      exact .inl ⟨w.a0, _, _, .int c, rfl, rfl, rs.scr.sq, by rw [at_map, e2]; rfl, Post.ok (Rel := RelD w) h rs .int⟩
/-- dicts: what is looked up -/
theorem RelK.inj {k k' : D} {q : Key} (a : RelK k q) (b : RelK k' q) : k = k' := by
  cases a with
  | int => cases b; rfl
  | str => 
    generalize e : (Sum.inr (S2 _) : Key) = z at b
    cases b with
    | int => cases e
    | str => rw [S2_inj.mp (Sum.inr.inj e)]
theorem RelK.fn {k : D} {q q' : Key} (a : RelK k q) (b : RelK k q') : q = q' := by
  cases a <;> cases b <;> rfl
theorem RelK.of {H : Hp} {mu : List Addr} {k : D} {v : V} (r : RelD w H mu k v) (h : isKey k = true) : ∃ q, RelK k q ∧ v = kV q := by
  cases r <;> try (cases h)
  · exact ⟨.inl _, .int, rfl⟩
  · rename_i ok; exact ⟨.inr _, .str ok, rfl⟩
theorem RelK.val {H : Hp} {mu : List Addr} {k : D} {q : Key} (r : RelK k q) : RelD w H mu k (kV q) := by
  cases r with
  | int => exact .int
  | str ok => exact .str ok
theorem RelKV.get {H : Hp} {mu : List Addr} {kvs : List (D × D)} {gs : List (Key × V)} {k : D} {q : Key} (r : RelKV w H mu kvs gs) (rk : RelK k q) : match dget kvs k with
    | some d => ∃ v, valV gs q = some v ∧ RelD w H mu d v
    | none => valV gs q = none := by
  induction r with
  | nil => rfl
  | cons a b c ih =>
    rename_i k' d q' v fs gs
    unfold dget at ih ⊢
    by_cases e : k' = k
    · subst e
      have : q' = q := a.fn rk
      subst this
      simp only [List.find?_cons, decide_true, Option.map_some]
      exact ⟨v, valV_pos rfl, b⟩
    · have : ¬ q' = q := fun z => e (a.inj (z ▸ rk))
      simp only [List.find?_cons, decide_eq_false e]
      rw [valV_neg this]
      exact ih
theorem RelS.dic {H : Hp} {mu : List Addr} {S : Store} {n : Nat} {lk : Bool} {kvs : List (D × D)} {v : V} (rs : RelS w H mu S) (r : RelD w H mu (.ref n) v) (e : S[n]? = some (.dic lk kvs)) :
    ∃ a gs, v = .ref a ∧ mu[n]? = some a ∧ RelKV w H mu kvs gs ∧ (gs.map (·.1)).Nodup ∧ kvs.length ≤ sizeLine ∧ Rd H a (.dK gs) ∧ (lk = false → H a = some (.dK gs)) := by
  cases r with
  | ref hm =>
    obtain ⟨gs, h1, h2, h3, h4⟩ := rs.obj _ _ _ e hm
    refine ⟨_, gs, rfl, hm, h1, h2, h3, ?_, fun z => by subst z; exact h4⟩
    cases lk with
    | true => obtain ⟨ob, h4⟩ := h4; exact .inr ⟨ob, h4⟩
    | false => exact .inl h4
theorem notSlice {i : Expr} (h : (match i with
    | .Slice .. => false
    | _ => true) = true) : PlainIx i := fun o k => by
  cases i <;> first | rfl | cases h
theorem ev2_pick {f g h i : D → D → Store → Res D} (hp : ∀ x y S, f x y S = g x y S ∨ f x y S = h x y S ∨ f x y S = i x y S) (rho : En) (S : Store) :
    ev2 ma mb f rho S = ev2 ma mb g rho S ∨ ev2 ma mb f rho S = ev2 ma mb h rho S ∨ ev2 ma mb f rho S = ev2 ma mb i rho S := by
  unfold ev2
  cases ma rho S with
  | ok x S1 =>
    dsimp only [Res.bind]
    cases mb rho S1 with
    | ok y S2 => exact hp x y S2
    | exc c fs S => exact .inl rfl
    | stuck => exact .inl rfl
  | exc c fs S => exact .inl rfl
  | stuck => exact .inl rfl
theorem PE.pick3 {m m1 m2 m3 : Mx D} (h1 : PE X e (liftE w W m1)) (h2 : PE X e (liftE w W m2)) (h3 : PE X e (liftE w W m3)) (hp : ∀ rho S, m rho S = m1 rho S ∨ m rho S = m2 rho S ∨ m rho S = m3 rho S) : PE X e (liftE w W m) := by
  refine ⟨fun pins s σ H Q I ⟨rho, S, mu, re, rs, z⟩ => ?_⟩
  rcases hp rho S with q | q | q
  · exact h1.run pins s σ H Q I ⟨rho, S, mu, re, rs, by rw [← q]; exact z⟩
  · exact h2.run pins s σ H Q I ⟨rho, S, mu, re, rs, by rw [← q]; exact z⟩
  · exact h3.run pins s σ H Q I ⟨rho, S, mu, re, rs, by rw [← q]; exact z⟩
/-- two values, then a rule whose reading is told by hand -/
theorem op2' {t : TE} {f : D → D → Store → Res D} (h : PE X e t)
    (o : ∀ σ H Q, (liftE w W ma σ H fun v H1 => liftE w W mb σ H1 fun u H2 => ∃ d1 d2 S2 mu2, RelS w H2 mu2 S2 ∧ RelD w H2 mu2 d1 v ∧ RelD w H2 mu2 d2 u ∧ Post w (RelD w) W σ H2 mu2 (f d1 d2 S2) Q) → t σ H Q) : PE X e (liftE w W (ev2 ma mb f)) :=
  PE.imp h fun σ H Q z => o σ H Q (lift_ev2 (RA := RelD w) (RB := RelD w) (fun k p r => r.mono k p) z)
theorem se_idxK (hu : X.A.units + 1 < cLine) (ha : PE X a (liftE w W ma)) (hb : PE X b (liftE w W mb)) (hs : NoSl b) : PE X (.Subscript a b pos) (liftE w W (ev2 ma mb idxK)) := by
  refine op2' (pe_dget hu ha hb hs) fun σ H Q z => z.imp fun v H1 z => z.imp fun u H2 ⟨d1, d2, S2, mu2, rs, r1, r2, q⟩ => ?_
  unfold idxK at q
  split at q
  · split at q
    · rename_i lk kvs e
      split at q
      · rename_i hk
        obtain ⟨dd, e2, q⟩ := opt_post q
        obtain ⟨a, gs, rfl, hm, rkv, nd, hl, rdd, _⟩ := rs.dic r1 e
        obtain ⟨qk, rk, rfl⟩ := RelK.of r2 hk
        have g := rkv.get rk
        rw [e2] at g
        obtain ⟨v, g1, g2⟩ := g
        exact ⟨a, v, rfl, .inl ⟨gs, qk, rdd, rfl, g1.symm⟩, Post.ok (Rel := RelD w) q rs g2⟩
      · exact q.elim
    · exact q.elim
  · exact q.elim
end
end Bs

set_option Elab.async false
set_option linter.all false
set_option maxRecDepth 100000
set_option maxHeartbeats 1000000
/-! Bs7: dicts whose keys are tuples. -/
namespace Bs
open PySem PySem.Spec L2

def nkV : V → Option NestedKey
  | .non => some .none
  | .int i => some (.num i)
  | .str x => some (.text x)
  | _ => none
inductive KV1 : List V → List NestedKey → Prop
  | nil : KV1 [] []
  | cons {v : V} {k : NestedKey} {vs ks} : nkV v = some k → KV1 vs ks → KV1 (v :: vs) (k :: ks)
/-- at b stands the key q -/
def KeyAt (K : PySem.W.Frag) (H : Hp) (b : Addr) (q : NestedKey) : Prop := ∃ vs ks, SqT K H b vs ∧ KV1 vs ks ∧ q = .tup ks
def rget (rows : List Row) (q : NestedKey) : Option V := (rows.find? fun r => decide (r.1 = q)).map (·.2.2)
/-- at a stands the dict of these rows -/
structure TdAt (w : Wd) (H : Hp) (a : Addr) (rows : List Row) : Prop where
  ob : H a = some (tdO w a rows)
  nd : (rows.map (·.1)).Nodup
  sm : (a == sysModules) = false
  ks : ∀ r ∈ rows, KeyAt w.K H r.2.1 r.1
  len : rows.length ≤ sizeLine
section
variable {w : Wd} {X : Cx} {pins : List (Addr × Obj)} {σ : St} {H : Hp} {s : Shared} {a b : Addr} {q : NestedKey} {rows : List Row}
theorem nested_all {h : Heap} : ∀ {vs : List V} {ks : List NestedKey} {its : List Value}, KV1 vs ks → Vals vs its → NestedAll h ks its ∧ NestedKey.depthAll ks = 0
  | _, _, _, .nil, .nil => ⟨.nil, rfl⟩
  | v :: vs, k :: ks, _, .cons e c, .cons r rr => by
    obtain ⟨h1, h2⟩ := nested_all (h := h) c rr
    cases v <;> simp only [nkV, reduceCtorEq, Option.some.injEq] at e <;> subst e
    · cases r; exact ⟨.cons .none h1, by simp [NestedKey.depthAll, NestedKey.depth, h2]⟩
    · obtain ⟨t, rfl⟩ := r; exact ⟨.cons (.int _ _) h1, by simp [NestedKey.depthAll, NestedKey.depth, h2]⟩
    · obtain ⟨t, rfl⟩ := r; exact ⟨.cons (.text _ _) h1, by simp [NestedKey.depthAll, NestedKey.depth, h2]⟩
theorem key_is (I : Inv X pins σ H s) (h : KeyAt X.K H b q) : (nestedKind X.prog X.w).is s.heap q b := by
  obtain ⟨vs, ks, hs, hk, rfl⟩ := h
  obtain ⟨its, rv, ⟨o, ho, hc, n, hd⟩, _⟩ := I.tuple hs
  obtain ⟨h1, h2⟩ := nested_all (h := s.heap) hk rv
  refine ⟨.tup ho hc hd (by simpa using h1), ?_⟩
  show NestedKey.depthAll ks + 1 ≤ 8
  omega
theorem rows_keys : ∀ {rows : List Row} {xs : List (NestedKey × Addr × Value)}, Paired rowRel rows xs → xs.map (·.1) = rows.map (·.1) ∧ rows.length = xs.length ∧ (∀ x ∈ xs, ∃ r ∈ rows, r.1 = x.1 ∧ r.2.1 = x.2.1)
  | _, _, .nil => ⟨rfl, rfl, fun _ h => nomatch h⟩
  | _, _, .cons r rr => by
    obtain ⟨h1, h2, h3⟩ := rows_keys rr
    refine ⟨by simp [h1, r.1], by simp [h2], fun x hx => ?_⟩
    rcases List.mem_cons.mp hx with rfl | hx
    · exact ⟨_, List.mem_cons_self .., r.1, r.2.1⟩
    · obtain ⟨y, hy, e⟩ := h3 x hx
      exact ⟨y, List.mem_cons_of_mem _ hy, e⟩
theorem TdAt.dict (hP : X.prog = w.P) (hW : X.w = w.wd) (hK : X.K = w.K) (I : Inv X pins σ H s) (t : TdAt w H a rows) : ∃ xs, Paired rowRel rows xs ∧ s.heap.DictOfH (nestedKind X.prog X.w) a xs ∧ xs.length ≤ sizeLine := by
  obtain ⟨⟨xs, rr, o, es, ep, ho, hc, hd, he⟩, _⟩ := I.hok a _ t.ob
  obtain ⟨h1, h2, h3⟩ := rows_keys rr
  refine ⟨xs, rr, ⟨o, es, ep, ho, hc, hd, by rw [hP, hW]; exact he, fun x hx => ?_, by rw [h1]; exact t.nd⟩, by rw [← h2]; exact t.len⟩
  obtain ⟨r, hr, e1, e2⟩ := h3 x hx
  have := key_is I (hK ▸ t.ks r hr)
  rw [e1, e2] at this
  exact this
theorem rget_rel : ∀ {rows : List Row} {xs : List (NestedKey × Addr × Value)} (q : NestedKey), Paired rowRel rows xs → match rget rows q with
    | some v => ∃ p, atKey xs q = some p ∧ RelV v p.2
    | none => atKey xs q = none
  | _, _, _, .nil => rfl
  | (k, b, v) :: rows, (k', b', u) :: xs, q, .cons r rr => by
    have ih := rget_rel q rr
    obtain ⟨h1, h2, h3⟩ := r
    dsimp only at h1 h2 h3
    subst h1 h2
    unfold rget atKey at ih ⊢
    by_cases e : k = q
    · subst e
      simp only [List.find?_cons, decide_true, Option.map_some]
      exact ⟨(b, u), rfl, h3⟩
    · simp only [List.find?_cons, decide_eq_false e]
      exact ih
def rTIn (w : Wd) (neg : Bool) : R2 := fun x y H Q => ∃ b a q rows, x = .ref b ∧ y = .ref a ∧ KeyAt w.K H b q ∧ TdAt w H a rows ∧ Q (.bl (if neg then !(rget rows q).isSome else (rget rows q).isSome)) H
theorem room8 {A : Around} {kind : Program → World → Unit} (hu : A.units + 64 < cLine) {P : Program} {wd : World} : (nestedKind P wd).room A.in1 := by
  show A.units + 1 + 8 < cLine
  omega
theorem or_tin (hP : X.prog = w.P) (hW : X.w = w.wd) (hK : X.K = w.K) (hu : X.A.units + 64 < cLine) : OpR X (compareOp .In) (rTIn w false) := by
  intro pins s σ H x y v u Q I rx ry h
  obtain ⟨b, a, q, rows, rfl, rfl, hk, t, hQ⟩ := h
  cases rx; cases ry
  obtain ⟨xs, rr, hm, _⟩ := t.dict hP hW hK I
  refine wpAny_in_heap (room8 (kind := fun _ _ => ()) hu) (key_is I (hK ▸ hk)) t.sm hm ?_
  have g := rget_rel q rr
  refine ⟨.bl _, H, I.tok _, ?_, hQ⟩
  cases e : rget rows q with
  | none => rw [e] at g; rw [g]; rfl
  | some v => rw [e] at g; obtain ⟨p, g1, _⟩ := g; rw [g1]; rfl
theorem or_tnotin (hP : X.prog = w.P) (hW : X.w = w.wd) (hK : X.K = w.K) (hu : X.A.units + 64 < cLine) : OpR X (compareOp .NotIn) (rTIn w true) := by
  intro pins s σ H x y v u Q I rx ry h
  obtain ⟨b, a, q, rows, rfl, rfl, hk, t, hQ⟩ := h
  cases rx; cases ry
  obtain ⟨xs, rr, hm, _⟩ := t.dict hP hW hK I
  refine notIn_keyed (room8 (kind := fun _ _ => ()) hu) (key_is I (hK ▸ hk)) t.sm ⟨xs, hm, rfl⟩ ?_
  have g := rget_rel q rr
  refine ⟨.bl _, H, I.tok _, ?_, hQ⟩
  rw [valueAt_pairsH, Option.isSome_map]
  cases e : rget rows q with
  | none => rw [e] at g; rw [g]; rfl
  | some v => rw [e] at g; obtain ⟨p, g1, _⟩ := g; rw [g1]; rfl
def rTGet (w : Wd) : R2 := fun x y H Q => ∃ a b q rows v, x = .ref a ∧ y = .ref b ∧ KeyAt w.K H b q ∧ TdAt w H a rows ∧ rget rows q = some v ∧ Q v H
theorem get_td (hP : X.prog = w.P) (hW : X.w = w.wd) (hK : X.K = w.K) (hu : X.A.units + 64 < cLine) {x y : V} {v u : Value} {Q : VK} (I : Inv X pins σ H s) (rx : RelV x v) (ry : RelV y u) (h : rTGet w x y H Q) :
    wpAny (model X.prog X.w) X.A (getItem v u) (EP X pins σ Q) X.xe s ∧ s.TypeIs v "dict" := by
  obtain ⟨a, b, q, rows, z, rfl, rfl, hk, t, e, hQ⟩ := h
  cases rx; cases ry
  obtain ⟨xs, rr, hm, _⟩ := t.dict hP hW hK I
  have g := rget_rel q rr
  rw [e] at g
  obtain ⟨p, g1, g2⟩ := g
  exact ⟨wpAny_getItem_heap (room8 (kind := fun _ _ => ()) hu) (key_is I (hK ▸ hk)) hm g1 ⟨z, H, I.tok _, g2, hQ⟩, hm.typeIs⟩
theorem pe_tget {ea eb : Expr} {ta tb : TE} {pos : Pos} (hP : X.prog = w.P) (hW : X.w = w.wd) (hK : X.K = w.K) (hu : X.A.units + 64 < cLine) (ha : PE X ea ta) (hb : PE X eb tb) (hs : NoSl eb) : PE X (.Subscript ea eb pos) (tOp (rTGet w) ta tb) := by
  refine ⟨fun pins s σ H Q I h => ?_⟩
  refine subD_of PySem.F.slot_dict_getitem.lookup hs (thn (ha.run pins s σ H _ I h) fun u s1 ⟨x, H1, I1, rx, q1⟩ => thn (hb.run pins s1 σ H1 _ I1 q1) fun iv s2 ⟨y, H2, I2, ry, q2⟩ => ?_)
  obtain ⟨h1, h2⟩ := get_td hP hW hK hu I2 rx ry q2
  exact ⟨h2, h1⟩
end

/-! ### over data -/
section
variable {w : Wd} {X : Cx} {W : WX} {a b e : Expr} {ma mb : Mx D} {pos : Pos}
theorem kv1_of {H : Hp} {mu : List Addr} : ∀ {ds : List D} {vs : List V} {ks : List NestedKey}, RelDs w H mu ds vs → nks ds = some ks → KV1 vs ks
  | _, _, _, .nil, e => by cases e; exact .nil
  | d :: ds, v :: vs, ks, .cons r rr, e => by
    simp only [nks] at e
    split at e
    · rename_i k ks e1 e2
      cases e
      refine .cons ?_ (kv1_of rr e2)
      cases r <;> first | exact e1 | (simp only [nk1, reduceCtorEq] at e1)
    · cases e
theorem keyAt_of {H : Hp} {mu : List Addr} {k : D} {b : Addr} {q : NestedKey} (r : RelD w H mu k (.ref b)) (e : nk k = some q) : KeyAt w.K H b q := by
  cases r with
  | tup t rd _ =>
    simp only [nk] at e
    cases e1 : nks _ with
    | none => rw [e1] at e; cases e
    | some ks => rw [e1] at e; cases e; exact ⟨_, ks, t.sq, kv1_of rd e1, rfl⟩
  | ref _ => cases e
  | scr => cases e
theorem nk1_inj {a b : D} {k : NestedKey} (h : nk1 a = some k) (h' : nk1 b = some k) : a = b := by
  cases a <;> cases b <;> simp only [nk1, reduceCtorEq, Option.some.injEq] at h h' <;> subst h <;> first | rfl | (injection h' with h'; first | (subst h'; rfl) | (rw [S2_inj.mp h'])) | cases h'
theorem nks_inj : ∀ {a b : List D} {ks : List NestedKey}, nks a = some ks → nks b = some ks → a = b
  | [], b, ks, h, h' => by
    cases h
    cases b with
    | nil => rfl
    | cons d ds =>
      simp only [nks] at h'
      split at h' <;> cases h'
  | x :: xs, b, ks, h, h' => by
    simp only [nks] at h
    split at h
    · rename_i k ks' e1 e2
      cases h
      cases b with
      | nil => cases h'
      | cons y ys =>
        simp only [nks] at h'
        split at h'
        · rename_i k2 ks2 g1 g2
          injection h' with h'
          injection h' with h1 h2
          subst h1 h2
          rw [nk1_inj e1 g1, nks_inj e2 g2]
        · cases h'
    · cases h
theorem nk_inj {a b : D} {k : NestedKey} (h : nk a = some k) (h' : nk b = some k) : a = b := by
  cases a <;> try (cases h)
  cases b <;> try (cases h')
  simp only [nk] at h h'
  cases e1 : nks _ with
  | none => rw [e1] at h; cases h
  | some ks =>
    rw [e1] at h
    cases e2 : nks _ with
    | none => rw [e2] at h'; cases h'
    | some ks' =>
      rw [e2] at h'
      cases h; cases h'
      rw [nks_inj e1 e2]
theorem isKeyT_nk {k : D} (h : isKeyT k = true) : ∃ q, nk k = some q := by
  cases k <;> try (cases h)
  rename_i ds
  simp only [isKeyT] at h
  have : ∃ ks, nks ds = some ks := by
    induction ds with
    | nil => exact ⟨[], rfl⟩
    | cons d ds ih =>
      rw [List.all_cons, Bool.and_eq_true] at h
      obtain ⟨ks, e⟩ := ih h.2
      obtain ⟨k, e1⟩ : ∃ k, nk1 d = some k := by
        cases d <;> first | exact ⟨_, rfl⟩ | (have := h.1; cases this)
      exact ⟨k :: ks, by simp only [nks, e1, e]⟩
  obtain ⟨ks, e⟩ := this
  exact ⟨.tup ks, by simp only [nk, e]; rfl⟩
theorem RelD.isRef {H : Hp} {mu : List Addr} {k : D} {v : V} {q : NestedKey} (r : RelD w H mu k v) (e : nk k = some q) : ∃ b, v = .ref b := by
  cases r <;> first | exact ⟨_, rfl⟩ | cases e
theorem RelR.get {H : Hp} {mu : List Addr} {kvs : List (D × D)} {rows : List Row} {k : D} {q : NestedKey} (r : RelR w H mu kvs rows) (rk : nk k = some q) : match dget kvs k with
    | some d => ∃ v, rget rows q = some v ∧ RelD w H mu d v
    | none => rget rows q = none := by
  induction r with
  | nil => rfl
  | cons e a b c ih =>
    rename_i k' d q' b' v fs gs
    unfold dget rget at ih ⊢
    by_cases e2 : k' = k
    · subst e2
      have : q' = q := Option.some.inj (e.symm.trans rk)
      subst this
      simp only [List.find?_cons, decide_true, Option.map_some]
      exact ⟨v, rfl, b⟩
    · have : ¬ q' = q := fun z => e2 (nk_inj e (by rw [z]; exact rk))
      simp only [List.find?_cons, decide_eq_false e2, decide_eq_false this]
      exact ih
theorem RelR.len {H : Hp} {mu : List Addr} {kvs : List (D × D)} {rows : List Row} (r : RelR w H mu kvs rows) : kvs.length = rows.length := by
  induction r with
  | nil => rfl
  | cons _ _ _ _ ih => simp [ih]
theorem RelR.keys {H : Hp} {mu : List Addr} {kvs : List (D × D)} {rows : List Row} (r : RelR w H mu kvs rows) : ∀ x ∈ rows, KeyAt w.K H x.2.1 x.1 := by
  induction r with
  | nil => exact fun _ h => nomatch h
  | cons e a b c ih =>
    intro x hx
    rcases List.mem_cons.mp hx with rfl | hx
    · exact keyAt_of a e
    · exact ih x hx
theorem RelS.dit {H : Hp} {mu : List Addr} {S : Store} {n : Nat} {kvs : List (D × D)} {v : V} (rs : RelS w H mu S) (r : RelD w H mu (.ref n) v) (e : S[n]? = some (.dit kvs)) :
    ∃ a rows, v = .ref a ∧ mu[n]? = some a ∧ RelR w H mu kvs rows ∧ TdAt w H a rows := by
  cases r with
  | ref hm =>
    obtain ⟨rows, h1, h2, h3, h4, h5⟩ := rs.obj _ _ _ e hm
    exact ⟨_, rows, rfl, hm, h1, h5, h2, h4, h1.keys, by rw [← h1.len]; exact h3⟩
theorem opl_idxT : OpL w (rTGet w) idxT := by
  intro W σ H mu S x y v u Q rs rx ry h
  unfold idxT at h
  split at h
  · split at h
    · rename_i kvs e
      split at h
      · rename_i hk
        obtain ⟨dd, e2, h⟩ := opt_post h
        obtain ⟨a, rows, rfl, hm, rr, t⟩ := rs.dit rx e
        obtain ⟨q, hq⟩ := isKeyT_nk hk
        obtain ⟨b, rfl⟩ := ry.isRef hq
        have g := rr.get hq
        rw [e2] at g
        obtain ⟨v, g1, g2⟩ := g
        exact ⟨a, b, q, rows, v, rfl, rfl, keyAt_of ry hq, t, g1, Post.ok (Rel := RelD w) h rs g2⟩
      · exact h.elim
    · exact h.elim
  · exact h.elim
theorem se_idx (hP : X.prog = w.P) (hW : X.w = w.wd) (hK : X.K = w.K) (hu : X.A.units + 64 < cLine) (ha : PE X a (liftE w W ma)) (hb : PE X b (liftE w W mb)) (hs : PlainIx b) : PE X (.Subscript a b pos) (liftE w W (ev2 ma mb idxD)) :=
  PE.pick3 (op2 (pe_ix (hK ▸ ix_seq) ha hb hs) opl_idxS) (se_idxK (by omega) ha hb hs) (op2 (pe_tget hP hW hK hu ha hb hs) opl_idxT) fun rho S => ev2_pick idx_pick rho S
end
end Bs

set_option Elab.async false
set_option linter.all false
set_option maxRecDepth 100000
set_option maxHeartbeats 1000000
/-! Bs8: comparisons, slices, isinstance. -/
namespace Bs
open PySem PySem.Spec L2

section
variable {w : Wd} {X : Cx} {W : WX} {a b c e : Expr} {ma mb mc : Mx D} {pos : Pos} {op : CmpOp}
theorem PC.imp {t t' : TE} (h : PC X op a b t) (q : ∀ σ H Q, t' σ H Q → t σ H Q) : PC X op a b t' := ⟨fun pins s σ H Q I z => h.run pins s σ H Q I (q _ _ _ z)⟩
theorem pc_R {ta tb : TE} {r : R2} (ho : OpR X (compareOp op) r) (ha : PE X a ta) (hb : PE X b tb) : PC X op a b (tOp r ta tb) :=
  ⟨fun pins s σ H Q I h => bin ha hb I (R := fun x y H2 => r x y H2 Q) h fun v u s2 x y H2 I2 rx ry q => ho pins s2 σ H2 x y v u Q I2 rx ry q⟩
theorem PC.op2 {r : R2} {f : D → D → Store → Res D} (ho : OpR X (compareOp op) r) (o : OpL w r f) (ha : PE X a (liftE w W ma)) (hb : PE X b (liftE w W mb)) : PC X op a b (liftE w W (ev2 ma mb f)) := by
  refine PC.imp (pc_R ho ha hb) fun σ H Q z => ?_
  have q := lift_ev2 (RA := RelD w) (RB := RelD w) (fun k p r => r.mono k p) z
  exact q.imp fun v H1 q => q.imp fun u H2 ⟨d1, d2, S2, mu2, rs2, r1, r2, q⟩ => o W σ H2 mu2 S2 d1 d2 v u Q rs2 r1 r2 q
theorem PC.pick {m m1 m2 : Mx D} (h1 : PC X op a b (liftE w W m1)) (h2 : PC X op a b (liftE w W m2)) (hp : ∀ rho S, m rho S = m1 rho S ∨ m rho S = m2 rho S) : PC X op a b (liftE w W m) := by
  refine ⟨fun pins s σ H Q I ⟨rho, S, mu, re, rs, z⟩ => ?_⟩
  rcases hp rho S with q | q
  · exact h1.run pins s σ H Q I ⟨rho, S, mu, re, rs, by rw [← q]; exact z⟩
  · exact h2.run pins s σ H Q I ⟨rho, S, mu, re, rs, by rw [← q]; exact z⟩
theorem ev2_pick2 {f g h : D → D → Store → Res D} (hp : ∀ x y S, f x y S = g x y S ∨ f x y S = h x y S) (rho : En) (S : Store) : ev2 ma mb f rho S = ev2 ma mb g rho S ∨ ev2 ma mb f rho S = ev2 ma mb h rho S := by
  unfold ev2
  cases ma rho S with
  | ok x S1 =>
    dsimp only [Res.bind]
    cases mb rho S1 with
    | ok y S2 => exact hp x y S2
    | exc c fs S => exact .inl rfl
    | stuck => exact .inl rfl
  | exc c fs S => exact .inl rfl
  | stuck => exact .inl rfl
/-- a comparison whose answer is a bool, as a test -/
theorem PC.test {f : D → D → Store → Res D} (hb : ∀ x y S d S', f x y S = .ok d S' → ∃ b, d = .bl b) (hx : ∀ x y S c fs S', f x y S ≠ .exc c fs S') (h : PC X op a b (liftE w W (ev2 ma mb f))) (hm : behindInMarks op b = false) : PT X (.Compare a [op] [b] pos) (liftT w W (ev1 (ev2 ma mb f) truD)) := by
  refine PT.imp (pt_cmp h hm) fun σ H Q z => ?_
  obtain ⟨rho, S, mu, re, rs, z⟩ := z
  refine ⟨rho, S, mu, re, rs, ?_⟩
  unfold ev1 ev2 at z
  unfold ev2
  cases e1 : ma rho S with
  | exc c fs S1 => rw [e1] at z; exact z
  | stuck => rw [e1] at z; exact z
  | ok x S1 =>
    rw [e1] at z
    dsimp only [Res.bind] at z ⊢
    cases e2 : mb rho S1 with
    | exc c fs S1 => rw [e2] at z; exact z
    | stuck => rw [e2] at z; exact z
    | ok y S2 =>
      rw [e2] at z
      dsimp only [Res.bind] at z ⊢
      cases e3 : f x y S2 with
      | exc c fs S1 => exact (hx _ _ _ _ _ _ e3).elim
      | stuck => rw [e3] at z; exact z
      | ok d S3 =>
        obtain ⟨k, rfl⟩ := hb _ _ _ _ _ e3
        rw [e3] at z
        intro v H' mu' p rs' rd k'
        cases rd
        exact ⟨k, rfl, (Post.rebase p k' z).ok rs' rfl⟩

/-! ### in -/
def inS (x y : D) (S : Store) : Res Bool := match y with
  | .str z => match x with
    | .str [c] => .ok (decide (c ∈ z)) S
    | _ => .stuck
  | _ => .stuck
def inT (x y : D) (S : Store) : Res Bool := match y with
  | .tup ys => match x with
    | .str z => if ys.all fun d => match d with
        | .str _ => true
        | _ => false
      then .ok (decide (D.str z ∈ ys)) S else .stuck
    | _ => .stuck
  | _ => .stuck
def inL (x y : D) (S : Store) : Res Bool := match y with
  | .ref n => match S[n]? with
    | some (.lst ys) => match toPd S 60 x, optAll (toPd S 59) ys with
      | some a, some bs => .ok (bs.any fun b => PyData.eqv b a) S
      | _, _ => .stuck
    | _ => .stuck
  | _ => .stuck
def inK (x y : D) (S : Store) : Res Bool := match y with
  | .ref n => match S[n]? with
    | some (.dic _ kvs) => if isKey x then .ok (dget kvs x).isSome S else .stuck
    | _ => .stuck
  | _ => .stuck
def inR (x y : D) (S : Store) : Res Bool := match y with
  | .ref n => match S[n]? with
    | some (.dit kvs) => if isKeyT x then .ok (dget kvs x).isSome S else .stuck
    | _ => .stuck
  | _ => .stuck
theorem in_pick (x y : D) (S : Store) : inD x y S = inS x y S ∨ inD x y S = inT x y S ∨ inD x y S = inL x y S ∨ inD x y S = inR x y S ∨ inD x y S = inK x y S := by
  cases y with
  | str z => exact .inl rfl
  | tup ys => exact .inr (.inl rfl)
  | ref n =>
    unfold inD inL inR inK
    dsimp only
    cases e : S[n]? with
    | none => exact .inr (.inr (.inl rfl))
    | some o =>
      cases o with
      | dic lk kvs => exact .inr (.inr (.inr (.inr rfl)))
      | dit kvs => exact .inr (.inr (.inr (.inl rfl)))
      | _ => exact .inr (.inr (.inl rfl))
  | _ => exact .inl rfl
def negIf (neg : Bool) (r : Res Bool) : Res D := r.bind fun b S => .ok (.bl (if neg then !b else b)) S
theorem opl_inS (neg : Bool) : OpL w (fun x y H Q => ∃ (c : Nat) (z : Str), x = .str ⟨#[c]⟩ ∧ y = .str z ∧ Q (.bl (if neg then !decide (c ∈ z.cps.toList) else decide (c ∈ z.cps.toList))) H) fun x y S => negIf neg (inS x y S) := by
  intro W σ H mu S x y v u Q rs rx ry h
  dsimp only [inS] at h
  cases ry <;> try (exact h.elim)
  cases rx <;> try (exact h.elim)
  rename_i z _ l _
  cases l with
  | nil => exact h.elim
  | cons c l =>
    cases l with
    | nil => exact ⟨_, _, rfl, rfl, by rw [S2_list]; exact Post.ok (Rel := RelD w) h rs .bl⟩
    | cons c l => exact h.elim
theorem strs_flat {H : Hp} {mu : List Addr} {z : List Nat} {okz : okStr z} : ∀ {ys : List D} {vs : List V}, RelDs w H mu ys vs → (ys.all fun d => match d with
        | .str _ => true
        | _ => false) = true → vs.all flatV = true ∧ inV (.str (S2 z)) vs = decide (D.str z ∈ ys)
  | _, _, .nil, _ => ⟨rfl, rfl⟩
  | y :: ys, v :: vs, .cons a b, h => by
    rw [List.all_cons, Bool.and_eq_true] at h
    obtain ⟨h1, h2⟩ := strs_flat (okz := okz) b h.2
    have hh := h.1
    cases a <;> try (cases hh; done)
    rename_i x ok
    refine ⟨by rw [List.all_cons, h1]; rfl, ?_⟩
    unfold inV at h2 ⊢
    rw [List.any_cons, h2]
    have e : eqV (.str (S2 x)) (.str (S2 z)) = decide (x = z) := by
      unfold eqV
      rw [Bool.eq_iff_iff]
      simp [S2_inj]
    rw [e]
    by_cases q : x = z
    · subst q; simp
    · have q' : ¬ z = x := fun r => q r.symm
      simp [q, q']
theorem opl_inT (neg : Bool) : OpL w (rIn w.K neg) fun x y S => negIf neg (inT x y S) := by
  intro W σ H mu S x y v u Q rs rx ry h
  dsimp only [inT] at h
  cases ry <;> try (exact h.elim)
  rename_i a vs ds t r l
  cases rx <;> try (exact h.elim)
  rename_i z okz
  dsimp only at h
  split at h
  · rename_i ha
    obtain ⟨h1, h2⟩ := strs_flat (okz := okz) r ha
    exact ⟨_, _, rfl, .inr t.sq, rfl, h1, by rw [h2]; exact Post.ok (Rel := RelD w) h rs .bl⟩
  · exact h.elim
theorem opl_inL : OpL w (rInD w.K) fun x y S => negIf false (inL x y S) := by
  intro W σ H mu S x y v u Q rs rx ry h
  dsimp only [inL] at h
  split at h
  · rename_i n
    split at h
    · rename_i ys e
      split at h
      · rename_i a bs e1 e2
        have e3 : toPd S 60 (.ref n) = some (.list bs) := by simp only [toPd, e, e2]; rfl
        obtain ⟨h1, h2, h3⟩ := dp_of rs rx e1
        obtain ⟨g1, g2, g3⟩ := dp_of rs ry e3
        exact ⟨a, bs, h1, g1, by simp [SeqAt.shaped, h2]; omega, by simp [SeqAt.shaped, g2]; omega, Post.ok (Rel := RelD w) h rs .bl⟩
      · exact h.elim
    · exact h.elim
  · exact h.elim
theorem opl_ninL : OpL w (rNotInD w.K) fun x y S => negIf true (inL x y S) := by
  intro W σ H mu S x y v u Q rs rx ry h
  dsimp only [inL] at h
  split at h
  · rename_i n
    split at h
    · rename_i ys e
      split at h
      · rename_i a bs e1 e2
        have e3 : toPd S 60 (.ref n) = some (.list bs) := by simp only [toPd, e, e2]; rfl
        obtain ⟨h1, h2, h3⟩ := dp_of rs rx e1
        obtain ⟨g1, g2, g3⟩ := dp_of rs ry e3
        exact ⟨a, bs, h1, g1, by simp [SeqAt.shaped, h2]; omega, by simp [SeqAt.shaped, g2]; omega, Post.ok (Rel := RelD w) h rs .bl⟩
      · exact h.elim
    · exact h.elim
  · exact h.elim
theorem opl_inR (neg : Bool) : OpL w (rTIn w neg) fun x y S => negIf neg (inR x y S) := by
  intro W σ H mu S x y v u Q rs rx ry h
  dsimp only [inR] at h
  split at h
  · split at h
    · rename_i kvs e
      split at h
      · rename_i hk
        obtain ⟨a, rows, rfl, hm, rr, t⟩ := rs.dit ry e
        obtain ⟨q, hq⟩ := isKeyT_nk hk
        obtain ⟨b, rfl⟩ := rx.isRef hq
        refine ⟨b, a, q, rows, rfl, rfl, keyAt_of rx hq, t, ?_⟩
        have g := rr.get hq
        have e3 : (rget rows q).isSome = (dget kvs x).isSome := by
          cases e2 : dget kvs x with
          | none => rw [e2] at g; rw [g]; rfl
          | some d => rw [e2] at g; obtain ⟨v, g1, _⟩ := g; rw [g1]; rfl
        rw [e3]
        exact Post.ok (Rel := RelD w) h rs .bl
      · exact h.elim
    · exact h.elim
  · exact h.elim
theorem dget_some {H : Hp} {mu : List Addr} {kvs : List (D × D)} {gs : List (Key × V)} {k : D} {q : Key} (r : RelKV w H mu kvs gs) (rk : RelK k q) : (valV gs q).isSome = (dget kvs k).isSome := by
  have g := r.get rk
  cases e2 : dget kvs k with
  | none => rw [e2] at g; rw [g]; rfl
  | some d => rw [e2] at g; obtain ⟨v, g1, _⟩ := g; rw [g1]; rfl
theorem sc_inK (hu : X.A.units + 1 < cLine) (ha : PE X a (liftE w W ma)) (hb : PE X b (liftE w W mb)) : PC X .In a b (liftE w W (ev2 ma mb fun x y S => negIf false (inK x y S))) := by
  refine PC.imp (pc_din hu ha hb) fun σ H Q z => ?_
  have q := lift_ev2 (RA := RelD w) (RB := RelD w) (fun k p r => r.mono k p) z
  refine q.imp fun v H1 q => q.imp fun u H2 ⟨x, y, S2, mu2, rs, r1, r2, z2⟩ => ?_
  dsimp only [inK] at z2
  split at z2
  · split at z2
    · rename_i lk kvs e
      split at z2
      · rename_i hk
        obtain ⟨a, gs, rfl, hm, rkv, nd, hl, rdd, _⟩ := rs.dic r2 e
        obtain ⟨qk, rk, rfl⟩ := RelK.of r1 hk
        exact ⟨a, _, rfl, .inl ⟨gs, qk, rdd, rfl, rfl⟩, by rw [dget_some rkv rk]; exact Post.ok (Rel := RelD w) z2 rs .bl⟩
      · exact z2.elim
    · exact z2.elim
  · exact z2.elim
theorem sc_ninK (hu : X.A.units + 1 < cLine) (ha : PE X a (liftE w W ma)) (hb : PE X b (liftE w W mb)) : PC X .NotIn a b (liftE w W (ev2 ma mb fun x y S => negIf true (inK x y S))) := by
  refine PC.imp (pc_dnotin hu ha hb) fun σ H Q z => ?_
  have q := lift_ev2 (RA := RelD w) (RB := RelD w) (fun k p r => r.mono k p) z
  refine q.imp fun v H1 q => q.imp fun u H2 ⟨x, y, S2, mu2, rs, r1, r2, z2⟩ => ?_
  dsimp only [inK] at z2
  split at z2
  · split at z2
    · rename_i lk kvs e
      split at z2
      · rename_i hk
        obtain ⟨a, gs, rfl, hm, rkv, nd, hl, rdd, _⟩ := rs.dic r2 e
        obtain ⟨qk, rk, rfl⟩ := RelK.of r1 hk
        exact ⟨a, _, rfl, .inl ⟨gs, qk, rdd, rfl, rfl⟩, by rw [dget_some rkv rk]; exact Post.ok (Rel := RelD w) z2 rs .bl⟩
      · exact z2.elim
    · exact z2.elim
  · exact z2.elim
theorem sc_in (hP : X.prog = w.P) (hW : X.w = w.wd) (hK : X.K = w.K) (hu : X.A.units + 100 < cLine) (ha : PE X a (liftE w W ma)) (hb : PE X b (liftE w W mb)) : PC X .In a b (liftE w W (ev2 ma mb (cmpD .isin))) := by
  have h1 : PC X .In a b (liftE w W (ev2 ma mb fun x y S => negIf false (inS x y S))) := PC.op2 op_in_sign (opl_inS false) ha hb
  have h2 : PC X .In a b (liftE w W (ev2 ma mb fun x y S => negIf false (inT x y S))) := PC.op2 op_in_seq (hK ▸ opl_inT false) ha hb
  have h3 : PC X .In a b (liftE w W (ev2 ma mb fun x y S => negIf false (inL x y S))) := PC.op2 (op_inD (by omega)) (hK ▸ opl_inL) ha hb
  have h4 : PC X .In a b (liftE w W (ev2 ma mb fun x y S => negIf false (inR x y S))) := PC.op2 (or_tin hP hW hK (by omega)) (opl_inR false) ha hb
  have h5 := sc_inK (by omega) ha hb
  have key : ∀ rho S, ev2 ma mb (cmpD .isin) rho S = ev2 ma mb (fun x y S => negIf false (inS x y S)) rho S ∨ ev2 ma mb (cmpD .isin) rho S = ev2 ma mb (fun x y S => negIf false (inT x y S)) rho S ∨ ev2 ma mb (cmpD .isin) rho S = ev2 ma mb (fun x y S => negIf false (inL x y S)) rho S ∨
      ev2 ma mb (cmpD .isin) rho S = ev2 ma mb (fun x y S => negIf false (inR x y S)) rho S ∨ ev2 ma mb (cmpD .isin) rho S = ev2 ma mb (fun x y S => negIf false (inK x y S)) rho S := fun rho S => by
    unfold ev2
    cases ma rho S with
    | ok x S1 =>
      dsimp only [Res.bind]
      cases mb rho S1 with
      | ok y S2 =>
        dsimp only [Res.bind]
        rcases in_pick x y S2 with q | q | q | q | q
        · exact .inl (by show blD (inD x y S2) = _; rw [q]; rfl)
        · exact .inr (.inl (by show blD (inD x y S2) = _; rw [q]; rfl))
        · exact .inr (.inr (.inl (by show blD (inD x y S2) = _; rw [q]; rfl)))
        · exact .inr (.inr (.inr (.inl (by show blD (inD x y S2) = _; rw [q]; rfl))))
        · exact .inr (.inr (.inr (.inr (by show blD (inD x y S2) = _; rw [q]; rfl))))
      | exc c fs S => exact .inl rfl
      | stuck => exact .inl rfl
    | exc c fs S => exact .inl rfl
    | stuck => exact .inl rfl
  refine ⟨fun pins s σ H Q I ⟨rho, S, mu, re, rs, z⟩ => ?_⟩
  rcases key rho S with q | q | q | q | q
  · exact h1.run pins s σ H Q I ⟨rho, S, mu, re, rs, by rw [← q]; exact z⟩
  · exact h2.run pins s σ H Q I ⟨rho, S, mu, re, rs, by rw [← q]; exact z⟩
  · exact h3.run pins s σ H Q I ⟨rho, S, mu, re, rs, by rw [← q]; exact z⟩
  · exact h4.run pins s σ H Q I ⟨rho, S, mu, re, rs, by rw [← q]; exact z⟩
  · exact h5.run pins s σ H Q I ⟨rho, S, mu, re, rs, by rw [← q]; exact z⟩
theorem sc_notin (hP : X.prog = w.P) (hW : X.w = w.wd) (hK : X.K = w.K) (hu : X.A.units + 100 < cLine) (ha : PE X a (liftE w W ma)) (hb : PE X b (liftE w W mb)) : PC X .NotIn a b (liftE w W (ev2 ma mb (cmpD .notin))) := by
  have h1 : PC X .NotIn a b (liftE w W (ev2 ma mb fun x y S => negIf true (inS x y S))) := PC.op2 op_notIn_sign (opl_inS true) ha hb
  have h2 : PC X .NotIn a b (liftE w W (ev2 ma mb fun x y S => negIf true (inT x y S))) := PC.op2 op_notIn_seq (hK ▸ opl_inT true) ha hb
  have h3 : PC X .NotIn a b (liftE w W (ev2 ma mb fun x y S => negIf true (inL x y S))) := PC.op2 (op_notInD (by omega)) (hK ▸ opl_ninL) ha hb
  have h4 : PC X .NotIn a b (liftE w W (ev2 ma mb fun x y S => negIf true (inR x y S))) := PC.op2 (or_tnotin hP hW hK (by omega)) (opl_inR true) ha hb
  have h5 := sc_ninK (by omega) ha hb
  have key : ∀ rho S, ev2 ma mb (cmpD .notin) rho S = ev2 ma mb (fun x y S => negIf true (inS x y S)) rho S ∨ ev2 ma mb (cmpD .notin) rho S = ev2 ma mb (fun x y S => negIf true (inT x y S)) rho S ∨ ev2 ma mb (cmpD .notin) rho S = ev2 ma mb (fun x y S => negIf true (inL x y S)) rho S ∨
      ev2 ma mb (cmpD .notin) rho S = ev2 ma mb (fun x y S => negIf true (inR x y S)) rho S ∨ ev2 ma mb (cmpD .notin) rho S = ev2 ma mb (fun x y S => negIf true (inK x y S)) rho S := fun rho S => by
    unfold ev2
    cases ma rho S with
    | ok x S1 =>
      dsimp only [Res.bind]
      cases mb rho S1 with
      | ok y S2 =>
        dsimp only [Res.bind]
        rcases in_pick x y S2 with q | q | q | q | q
        · exact .inl (by show (inD x y S2).bind _ = _; rw [q]; rfl)
        · exact .inr (.inl (by show (inD x y S2).bind _ = _; rw [q]; rfl))
        · exact .inr (.inr (.inl (by show (inD x y S2).bind _ = _; rw [q]; rfl)))
        · exact .inr (.inr (.inr (.inl (by show (inD x y S2).bind _ = _; rw [q]; rfl))))
        · exact .inr (.inr (.inr (.inr (by show (inD x y S2).bind _ = _; rw [q]; rfl))))
      | exc c fs S => exact .inl rfl
      | stuck => exact .inl rfl
    | exc c fs S => exact .inl rfl
    | stuck => exact .inl rfl
  refine ⟨fun pins s σ H Q I ⟨rho, S, mu, re, rs, z⟩ => ?_⟩
  rcases key rho S with q | q | q | q | q
  · exact h1.run pins s σ H Q I ⟨rho, S, mu, re, rs, by rw [← q]; exact z⟩
  · exact h2.run pins s σ H Q I ⟨rho, S, mu, re, rs, by rw [← q]; exact z⟩
  · exact h3.run pins s σ H Q I ⟨rho, S, mu, re, rs, by rw [← q]; exact z⟩
  · exact h4.run pins s σ H Q I ⟨rho, S, mu, re, rs, by rw [← q]; exact z⟩
  · exact h5.run pins s σ H Q I ⟨rho, S, mu, re, rs, by rw [← q]; exact z⟩
/-- the operator of the text -/
def copOf : Cop → CmpOp
  | .eq => .Eq
  | .ne => .NotEq
  | .lt => .Lt
  | .le => .LtE
  | .gt => .Gt
  | .ge => .GtE
  | .isin => .In
  | .notin => .NotIn
theorem sc_cmp (hP : X.prog = w.P) (hW : X.w = w.wd) (hK : X.K = w.K) (hu : X.A.units + 100 < cLine) (ha : PE X a (liftE w W ma)) (hb : PE X b (liftE w W mb)) (o : Cop) : PC X (copOf o) a b (liftE w W (ev2 ma mb (cmpD o))) := by
  cases o with
  | eq => exact PC.op2 (op_eqD (by omega)) (hK ▸ opl_eq) ha hb
  | ne => exact PC.op2 (op_neD (by omega)) (hK ▸ opl_ne) ha hb
  | lt => exact PC.op2 (OpR.or op_lt op_lt_str) opl_lt ha hb
  | le => exact PC.op2 (OpR.or op_le op_le_str) opl_le ha hb
  | gt => exact PC.op2 (OpR.or op_gt op_gt_str) opl_gt ha hb
  | ge => exact PC.op2 (OpR.or op_ge op_ge_str) opl_ge ha hb
  | isin => exact sc_in hP hW hK hu ha hb
  | notin => exact sc_notin hP hW hK hu ha hb
theorem inD_ok {x y : D} {S : Store} : inD x y S = .stuck ∨ ∃ b, inD x y S = .ok b S := by
  unfold inD
  (repeat' split) <;> first | exact .inl rfl | exact .inr ⟨_, rfl⟩
theorem cmpD_ok (o : Cop) (x y : D) (S : Store) : cmpD o x y S = .stuck ∨ ∃ b, cmpD o x y S = .ok (.bl b) S := by
  cases o with
  | isin => rcases inD_ok (x := x) (y := y) (S := S) with e | ⟨b, e⟩ <;> simp only [cmpD, blD, e, Res.bind] <;> simp
  | notin => rcases inD_ok (x := x) (y := y) (S := S) with e | ⟨b, e⟩ <;> simp only [cmpD, e, Res.bind] <;> simp
  | eq => show eqD x y S = _ ∨ ∃ b, eqD x y S = _; unfold eqD; split <;> simp
  | ne => show neD x y S = _ ∨ ∃ b, neD x y S = _; unfold neD; split <;> simp
  | lt => cases x <;> cases y <;> simp [cmpD, ltD]
  | le => cases x <;> cases y <;> first | exact .inl rfl | exact .inr ⟨_, rfl⟩
  | gt => cases x <;> cases y <;> simp [cmpD, gtD]
  | ge => cases x <;> cases y <;> first | exact .inl rfl | exact .inr ⟨_, rfl⟩
theorem st_cmp (hP : X.prog = w.P) (hW : X.w = w.wd) (hK : X.K = w.K) (hu : X.A.units + 100 < cLine) (ha : PE X a (liftE w W ma)) (hb : PE X b (liftE w W mb)) (o : Cop) (hm : behindInMarks (copOf o) b = false) :
    PT X (.Compare a [copOf o] [b] pos) (liftT w W (ev1 (ev2 ma mb (cmpD o)) truD)) :=
  PC.test (fun x y S d S' h => by
    rcases cmpD_ok o x y S with e | ⟨b, e⟩ <;> rw [e] at h <;> cases h
    exact ⟨_, rfl⟩) (fun x y S c fs S' h => by
    rcases cmpD_ok o x y S with e | ⟨b, e⟩ <;> rw [e] at h <;> cases h) (sc_cmp hP hW hK hu ha hb o) hm

/-! ### slices -/
theorem slice_rel {H : Hp} {mu : List Addr} {xs : List D} {vs : List V} (r : RelDs w H mu xs vs) (lo hi : Option Int) : RelDs w H mu (sliceL xs lo hi) (cutV vs lo hi) := by
  unfold sliceL cutV
  rw [r.length]
  exact (r.drop _).take _
theorem slice_len {α : Type} (xs : List α) (lo hi : Option Int) : (sliceL xs lo hi).length ≤ xs.length := by
  unfold sliceL
  rw [List.length_take, List.length_drop]
  omega
theorem slice_mem {α : Type} {xs : List α} {lo hi : Option Int} {x : α} (h : x ∈ sliceL xs lo hi) : x ∈ xs := List.mem_of_mem_drop (List.mem_of_mem_take h)
theorem slice_map {α β : Type} (xs : List α) (f : α → β) (lo hi : Option Int) : sliceL (xs.map f) lo hi = (sliceL xs lo hi).map f := by
  unfold sliceL
  rw [List.length_map, ← List.map_drop, ← List.map_take]
/-- x[lo:hi], by values -/
def SlL (w : Wd) (r : V → Option Int → Option Int → Hp → VK → Prop) : Prop :=
  ∀ (W : WX) (σ : St) (H : Hp) (mu : List Addr) (S : Store) (x : D) (lo hi : Option Int) (v : V) (Q : VK), RelS w H mu S → RelD w H mu x v → Post w (RelD w) W σ H mu (slcD x lo hi S) Q → r v lo hi H Q
theorem post_same {σ : St} {H : Hp} {mu : List Addr} {S : Store} {n : Nat} {ds : List D} {vs : List V} {Q : VK} {p : Addr} (rs : RelS w H mu S) (h : Post w (RelD w) W σ H mu (.ok (.tup ds) S) Q) (t : Tup w.K H p vs) (rd : RelDs w H mu ds vs) (hl : ds.length ≤ sizeLine) : Q (.ref p) H := Post.ok (Rel := RelD w) h rs (.tup t rd hl)
theorem sll : SlL w (fun x lo hi H Q => rSlL w.K x lo hi H Q ∨ (rSlA w.K x lo hi H Q ∨ rSlS x lo hi H Q)) := by
  intro W σ H mu S x lo hi v Q rs rx h
  unfold slcD at h
  cases rx <;> try (exact h.elim)
  · rename_i z ok
    refine .inr (.inr ⟨S2 z, rfl, by simpa using ok.1, ?_⟩)
    have e : cutS (S2 z) lo hi = S2 (sliceL z lo hi) := by
      unfold cutS sliceL S2
      simp [Str.length]
    rw [e]
    exact Post.ok (Rel := RelD w) h rs (.str ⟨Nat.le_trans (slice_len _ _ _) ok.1, fun c hc => ok.2 c (slice_mem hc)⟩)
  · rename_i a vs ds t r l
    refine .inr (.inl ⟨a, vs, rfl, t.sq, fun hw => ?_, fun _ p hp => ?_⟩)
    · have e : sliceL ds lo hi = ds := by
        unfold sliceL
        rw [r.length]
        rw [hw.1, hw.2]
        simp [← r.length]
      dsimp only at h
      rw [e] at h
      exact Post.ok (Rel := RelD w) h rs (.tup t r l)
    · exact post_tup rs (slice_rel r lo hi) (Nat.le_trans (slice_len _ _ _) l) h hp
  · rename_i n a hm
    dsimp only at h
    split at h
    · rename_i xs e
      obtain ⟨vs, r, ha, l⟩ := rs.obj _ _ _ e hm
      exact .inl ⟨a, vs, rfl, SqL.of ha, fun p hp => post_lst rs (slice_rel r lo hi) (Nat.le_trans (slice_len _ _ _) l) h hp⟩
    · exact h.elim
  · refine .inl ⟨w.a0, _, rfl, rs.scr.sq, fun p hp => ?_⟩
    have c : ∀ ns : List Int, RelDs w H mu (ns.map .int) (ns.map V.int) := fun ns => by
      induction ns with
      | nil => exact .nil
      | cons n ns ih => exact .cons .int ih
    have r := slice_rel (c w.ns0) lo hi
    rw [slice_map] at r
    dsimp only at h
    exact post_lst rs r (by rw [List.length_map]; exact Nat.le_trans (slice_len _ _ _) w.hsz) h hp
end
end Bs

set_option Elab.async false
set_option linter.all false
set_option maxRecDepth 100000
set_option maxHeartbeats 1000000
/-! Bs9: slices, isinstance, built-in functions. -/
namespace Bs
open PySem PySem.Spec L2
open PyProof.Rows (risingS sortedS)

section
variable {w : Wd} {X : Cx} {W : WX} {a b c e : Expr} {ma mb mc : Mx D} {pos : Pos}

/-! ### slices -/
abbrev relI : Hp → List Addr → Option Int → Option Int → Prop := fun _ _ a b => a = b
theorem so_none : PO X none (liftG w relI W fun _ S => .ok none S) :=
  ⟨fun pins s σ H Q I ⟨rho, S, mu, re, rs, z⟩ => po_none.run pins s σ H Q I (Post.ok (Rel := relI) z rs rfl)⟩
def optInt (x : D) (S : Store) : Res (Option Int) := match x with
  | .int i => .ok (some i) S
  | _ => .stuck
theorem so_some (ha : PE X a (liftE w W ma)) : PO X (some a) (liftG w relI W (ev1 ma optInt)) := by
  refine ⟨fun pins s σ H Q I h => (po_some ha).run pins s σ H Q I ?_⟩
  refine (lift_ev1 (RA := RelD w) h).imp fun v H1 ⟨d, S1, mu1, rs, rd, q⟩ => ?_
  cases rd <;> try (exact q.elim)
  exact ⟨_, rfl, Post.ok (Rel := relI) q rs rfl⟩
def ev3 (ma : Mx D) (ml mh : Mx (Option Int)) : Mx D := fun rho S => (ma rho S).bind fun x S => (ml rho S).bind fun l S => (mh rho S).bind fun h S => slcD x l h S
theorem se_slc {lo hi : Option Expr} {ml mh : Mx (Option Int)} {p2 : Pos} (hK : X.K = w.K) (ha : PE X a (liftE w W ma)) (hl : PO X lo (liftG w relI W ml)) (hh : PO X hi (liftG w relI W mh)) : PE X (.Subscript a (.Slice lo hi none p2) pos) (liftE w W (ev3 ma ml mh)) := by
  refine PE.imp (pe_slice (SlR.or sl_list (SlR.or sl_tupA sl_str)) ha hl hh) fun σ H Q ⟨rho, S, mu, re, rs, z⟩ => ?_
  refine ⟨rho, S, mu, re, rs, (Post.bind (Rel := RelD w) z).imp fun v H1 ⟨d, S1, mu1, p1, rs1, rd1, k1, z⟩ => ?_⟩
  refine ⟨rho, S1, mu1, re.mono k1 p1, rs1, (Post.bind (Rel := relI) z).imp fun l H2 ⟨l', S2, mu2, p2, rs2, rd2, k2, z⟩ => ?_⟩
  refine ⟨rho, S2, mu2, (re.mono k1 p1).mono k2 p2, rs2, (Post.bind (Rel := relI) z).imp fun h H3 ⟨h', S3, mu3, p3, rs3, rd3, k3, z⟩ => ?_⟩
  cases rd2; cases rd3
  rw [hK]
  exact sll W σ H3 mu3 S3 d l h v Q rs3 ((rd1.mono k2 p2).mono k3 p3) z
theorem se_rev {k : Nat} {p1 p2 p3 : Pos} (hK : X.K = w.K) (ha : PE X a (liftE w W ma)) : PE X (.Subscript a (.Slice none none (some (.UnaryOp .USub (.Constant (.int 1) k p1) p2)) p3) pos) (liftE w W (ev1 ma revD)) := by
  refine op1 (pe_revL ha) fun σ H Q z => z.imp fun v H1 ⟨d, S1, mu1, rs, rd, q⟩ => ?_
  unfold revD at q
  split at q
  · split at q
    · rename_i n xs e
      cases rd with
      | ref hm =>
        obtain ⟨vs, r, ha, l⟩ := rs.obj _ _ _ e hm
        exact ⟨_, vs, rfl, SqL.of ha, fun p hp => post_lst rs r.rev (by rw [List.length_reverse]; exact l) q hp⟩
    · exact q.elim
  · exact q.elim

/-! ### isinstance -/
def tyName : Ty → String
  | .str => "str"
  | .int => "int"
  | .bool => "bool"
  | .tuple => "tuple"
  | .list => "list"
theorem isi_ok {H : Hp} {mu : List Addr} {S : Store} {d : D} {v : V} {t : Ty} {σ : St} {Q : VK} (rs : RelS w H mu S) (rd : RelD w H mu d v) (h : Post w (RelD w) W σ H mu (isiD t d S) Q) : rIsi w.K [v, .ty (tyName t)] H Q := by
  unfold isiD at h
  cases rd with
  | non => exact ⟨_, _, _, _, false, rfl, .ty _, .base .non, kit_ty (by cases t <;> decide +kernel), Post.ok (Rel := RelD w) h rs .bl⟩
  | bl => exact ⟨_, _, _, _, (t == .bool || t == .int), rfl, .ty _, .base (.bl _), kit_ty (by cases t <;> decide +kernel), Post.ok (Rel := RelD w) h rs .bl⟩
  | int => exact ⟨_, _, _, _, (t == .int), rfl, .ty _, .base (.int _), kit_ty (by cases t <;> decide +kernel), Post.ok (Rel := RelD w) h rs .bl⟩
  | str ok => exact ⟨_, _, _, _, (t == .str), rfl, .ty _, .base (.str _), kit_ty (by cases t <;> decide +kernel), Post.ok (Rel := RelD w) h rs .bl⟩
  | tup tt r l =>
    refine ⟨_, _, .type "tuple", _, (t == .tuple), rfl, .ty _, ?_, kit_ty (by cases t <;> decide +kernel), Post.ok (Rel := RelD w) h rs .bl⟩
    rcases tt with e | ⟨o, its, n, e, c, _⟩
    · exact .base (.tup e)
    · exact .kTuple e c
  | ref hm =>
    dsimp only at h
    split at h
    · rename_i xs e
      obtain ⟨vs, r, ha, l⟩ := rs.obj _ _ _ e hm
      exact ⟨_, _, .type "list", _, (t == .list), rfl, .ty _, .base (.lst ha), kit_ty (by cases t <;> decide +kernel), Post.ok (Rel := RelD w) h rs .bl⟩
    · exact h.elim
  | scr =>
    refine ⟨_, _, .type "list", _, (t == .list), rfl, .ty _, ?_, kit_ty (by cases t <;> decide +kernel), Post.ok (Rel := RelD w) h rs .bl⟩
    rcases rs.scr.sq with (e | ⟨o, e⟩) | ⟨o, its, n, e, c, _⟩
    · exact .base (.lst e)
    · exact .base (.frz e)
    · exact .kList e c

/-! ### built-in functions -/
def BiL (w : Wd) (f : List D → Store → Res D) (r : List V → Hp → VK → Prop) : Prop :=
  ∀ (W : WX) (σ : St) (H : Hp) (mu : List Addr) (S : Store) (ds : List D) (vs : List V) (Q : VK), RelS w H mu S → RelDs w H mu ds vs → Post w (RelD w) W σ H mu (f ds S) Q → r vs H Q
variable {es : List Expr} {ms : Mx (List D)} {x : Str} {p : Pos}
theorem se_callB {id : String} {r : List V → Hp → VK → Prop} {f : List D → Store → Res D} (hc : CallR X (.builtin id) r) (o : BiL w f r) (hg : Gl X x) (hm : X.mg x = none) (hv : bootBuiltins x = some (.builtin id)) (hns : (e :: es).all notStar = true) (ha : PA X (e :: es) (liftA w W ms)) (hn : x ≠ "__name__") (hdb : (x == ("__debug__" : Str)) = false) :
    PE X (.Call (.Name x p) (e :: es) [] pos) (liftE w W (ev1 ms f)) := by
  rw [List.all_cons, Bool.and_eq_true] at hns
  refine PE.imp (pe_callB hc hg hm hv ha hn hdb (star_cons hns.1) (star_any hns.2)) fun σ H Q z => (lift_ev1 (RA := RelDs w) z).imp fun vs H1 ⟨ds, S1, mu1, rs, rd, q⟩ => o W σ H1 mu1 S1 ds vs Q rs rd q
theorem se_callTy {T : String} {r : List V → Hp → VK → Prop} {f : List D → Store → Res D} (hc : CallR X (.type T) r) (o : BiL w f r) (hg : Gl X x) (hm : X.mg x = none) (hv : bootBuiltins x = some (.type T)) (hns : (e :: es).all notStar = true) (ha : PA X (e :: es) (liftA w W ms)) (hn : x ≠ "__name__") (hdb : (x == ("__debug__" : Str)) = false) :
    PE X (.Call (.Name x p) (e :: es) [] pos) (liftE w W (ev1 ms f)) := by
  rw [List.all_cons, Bool.and_eq_true] at hns
  refine PE.imp (pe_callTy hc hg hm hv ha hn hdb (star_cons hns.1) (star_any hns.2)) fun σ H Q z => (lift_ev1 (RA := RelDs w) z).imp fun vs H1 ⟨ds, S1, mu1, rs, rd, q⟩ => o W σ H1 mu1 S1 ds vs Q rs rd q
end

section
variable {w : Wd} {H : Hp} {mu : List Addr} {S : Store}
theorem ints_rel : ∀ {ds : List D} {vs : List V} {ns : List Int}, RelDs w H mu ds vs → ints? ds = some ns → ds = ns.map .int ∧ vs = ns.map .int
  | _, _, _, .nil, e => by cases e; exact ⟨rfl, rfl⟩
  | d :: ds, v :: vs, ns, .cons a b, e => by
    unfold ints? at e
    simp only [optAll] at e
    split at e
    · rename_i y ys e1 e2
      cases e
      obtain ⟨h1, h2⟩ := ints_rel (ns := ys) b e2
      cases a <;> simp only [reduceCtorEq, Option.some.injEq] at e1
      subst e1
      exact ⟨by rw [h1]; rfl, by rw [h2]; rfl⟩
    · cases e
theorem strs_rel : ∀ {ds : List D} {vs : List V} {zs : List (List Nat)}, RelDs w H mu ds vs → strs? ds = some zs → ds = zs.map .str ∧ vs = (zs.map S2).map V.str ∧ ∀ z ∈ zs, okStr z
  | _, _, _, .nil, e => by cases e; exact ⟨rfl, rfl, fun _ h => nomatch h⟩
  | d :: ds, v :: vs, ns, .cons a b, e => by
    unfold strs? at e
    simp only [optAll] at e
    split at e
    · rename_i y ys e1 e2
      cases e
      obtain ⟨h1, h2, h3⟩ := strs_rel (zs := ys) b e2
      cases a <;> simp only [reduceCtorEq, Option.some.injEq] at e1
      rename_i ok
      subst e1
      refine ⟨by rw [h1]; rfl, by rw [h2]; rfl, fun z hz => ?_⟩
      rcases List.mem_cons.mp hz with rfl | hz
      · exact ok
      · exact h3 z hz
    · cases e
theorem rel_ints : ∀ ns : List Int, RelDs w H mu (ns.map .int) (ns.map V.int)
  | [] => .nil
  | n :: ns => .cons .int (rel_ints ns)
theorem rel_strs : ∀ {zs : List (List Nat)}, (∀ z ∈ zs, okStr z) → RelDs w H mu (zs.map .str) ((zs.map S2).map V.str)
  | [], _ => .nil
  | z :: zs, h => .cons (.str (h z (List.mem_cons_self ..))) (rel_strs fun y hy => h y (List.mem_cons_of_mem _ hy))
/-- a list or tuple, read -/
theorem items_rel {K : PySem.W.Frag} (hK : K = w.K) (rs : RelS w H mu S) {d : D} {v : V} {xs : List D} (rd : RelD w H mu d v) (h : itemsD d S = some xs) : ∃ a vs, v = .ref a ∧ RelDs w H mu xs vs ∧ xs.length ≤ sizeLine ∧ ((SqL K H a vs ∧ ∀ ds, d ≠ .tup ds) ∨ (Tup K H a vs ∧ d = .tup xs)) := by
  subst hK
  unfold itemsD at h
  cases rd <;> try (cases h)
  · rename_i t r l
    exact ⟨_, _, rfl, r, l, .inr ⟨t, rfl⟩⟩
  · rename_i hm
    dsimp only at h
    split at h
    · rename_i ys e
      cases h
      obtain ⟨vs, r, ha, l⟩ := rs.obj _ _ _ e hm
      exact ⟨_, _, rfl, r, l, .inl ⟨SqL.of ha, fun _ z => nomatch z⟩⟩
    · cases h
  · exact ⟨_, _, rfl, rel_ints _, by rw [List.length_map]; exact w.hsz, .inl ⟨rs.scr.sq, fun _ z => nomatch z⟩⟩
/-- one argument, two arguments -/
theorem rel1 {d : D} {vs : List V} (r : RelDs w H mu [d] vs) : ∃ v, vs = [v] ∧ RelD w H mu d v := by
  cases r with | cons a b => cases b; exact ⟨_, rfl, a⟩
theorem rel2 {d e : D} {vs : List V} (r : RelDs w H mu [d, e] vs) : ∃ v u, vs = [v, u] ∧ RelD w H mu d v ∧ RelD w H mu e u := by
  cases r with | cons a b => cases b with | cons b c => cases c; exact ⟨_, _, rfl, a, b⟩
end

section
variable {w : Wd}
/-- .. the shape of its arguments, else stuck -/
def lenD (xs : List D) (S : Store) : Res D := biD .len xs S
theorem bl_len {K : PySem.W.Frag} (hK : K = w.K) : BiL w (biD .len) (fun xs H Q => (∃ x n, xs = [x] ∧ LenV K x H n ∧ Q (.int n) H) ∨ (∃ a kvs, xs = [V.ref a] ∧ Rd H a (.dK kvs) ∧ Q (.int kvs.length) H)) := by
  intro W σ H mu S ds vs Q rs rd h
  subst hK
  match ds, rd, h with
  | [], rd, h => exact h.elim
  | _ :: _ :: _, rd, h => exact h.elim
  | [d], rd, h =>
    obtain ⟨v, rfl, r⟩ := rel1 rd
    cases r with
    | non => exact h.elim
    | bl => exact h.elim
    | int => exact h.elim
    | str ok => exact .inl ⟨_, _, rfl, ⟨by simpa using ok.1, rfl⟩, by rw [S2_len]; exact Post.ok (Rel := RelD w) h rs .int⟩
    | tup t rr l =>
      refine .inl ⟨_, _, rfl, .inr ⟨_, t.sq, rfl⟩, ?_⟩
      rw [← rr.length]
      exact Post.ok (Rel := RelD w) h rs .int
    | scr =>
      refine .inl ⟨_, _, rfl, .inl ⟨_, rs.scr.sq, rfl⟩, ?_⟩
      have h' : Post w (RelD w) W σ H mu (.ok (.int (w.ns0.map D.int).length) S) Q := h
      rw [List.length_map] at h' ⊢
      exact Post.ok (Rel := RelD w) h' rs .int
    | @ref n a hm =>
      have h' : Post w (RelD w) W σ H mu (match S[n]? with
        | some (.lst xs) => .ok (.int xs.length) S
        | some (.dic _ kvs) => .ok (.int kvs.length) S
        | _ => .stuck) Q := h
      split at h'
      · rename_i xs e
        obtain ⟨vs, rr, ha, l⟩ := rs.obj _ _ _ e hm
        refine .inl ⟨_, _, rfl, .inl ⟨_, SqL.of ha, rfl⟩, ?_⟩
        rw [← rr.length]
        exact Post.ok (Rel := RelD w) h' rs .int
      · rename_i lk kvs e
        obtain ⟨a', gs, ea, _, rkv, _, _, rdd, _⟩ := rs.dic (.ref hm) e
        cases ea
        refine .inr ⟨a, gs, rfl, rdd, ?_⟩
        have el : ∀ {fs : List (D × D)} {gs : List (Key × V)}, RelKV w H mu fs gs → fs.length = gs.length := fun r => by
          induction r with
          | nil => rfl
          | cons _ _ _ ih => simp [ih]
        rw [← el rkv]
        exact Post.ok (Rel := RelD w) h' rs .int
      · exact h'.elim
theorem call_lenR {X : Cx} : CallR X (.builtin "len") (fun xs H Q => ∃ a kvs, xs = [V.ref a] ∧ Rd H a (.dK kvs) ∧ Q (.int kvs.length) H) := by
  intro pins s σ H xs us Q I r h
  obtain ⟨a, kvs, rfl, ha, q⟩ := h
  obtain ⟨u, rfl, ru⟩ := vals1 r
  cases ru
  exact d_len I ha fun t s' I' => ⟨.int kvs.length, H, I', ⟨t, rfl⟩, q⟩
theorem bl_abs : BiL w (biD .abs) (fun xs H Q => ∃ i, xs = [.int i] ∧ Q (.int (if i < 0 then -i else i)) H) := by
  intro W σ H mu S ds vs Q rs rd h
  match ds, rd, h with
  | [], rd, h => exact h.elim
  | [d], rd, h =>
    obtain ⟨v, rfl, r⟩ := rel1 rd
    cases r <;> try (exact h.elim)
    exact ⟨_, rfl, Post.ok (Rel := RelD w) h rs .int⟩
  | d :: _ :: _, rd, h => exact (by cases d <;> exact h.elim)
theorem bl_ord : BiL w (biD .ord) (fun xs H Q => ∃ x, xs = [.str x] ∧ x.length = 1 ∧ Q (.int (x.cps.getD 0 0 : Nat)) H) := by
  intro W σ H mu S ds vs Q rs rd h
  match ds, rd, h with
  | [], rd, h => exact h.elim
  | [.str [c]], rd, h =>
    obtain ⟨v, rfl, r⟩ := rel1 rd
    cases r
    exact ⟨_, rfl, rfl, Post.ok (Rel := RelD w) h rs .int⟩
  | [.str []], rd, h => exact h.elim
  | [.str (_ :: _ :: _)], rd, h => exact h.elim
  | .str [c] :: _ :: _, rd, h => exact h.elim
  | .str [] :: _ :: _, rd, h => exact h.elim
  | .str (_ :: _ :: _) :: _ :: _, rd, h => exact h.elim
  | .non :: _, rd, h => exact h.elim
  | .bl _ :: _, rd, h => exact h.elim
  | .int _ :: _, rd, h => exact h.elim
  | .tup _ :: _, rd, h => exact h.elim
  | .ref _ :: _, rd, h => exact h.elim
  | .scr _ :: _, rd, h => exact h.elim
/-- a list is laid anew -/
theorem walk_keys {H : Hp} {mu : List Addr} {kvs : List (D × D)} {gs : List (Key × V)} (r : RelKV w H mu kvs gs) : RelDs w H mu (kvs.map (·.1)) (gs.map fun kv => kV kv.1) := by
  induction r with
  | nil => exact .nil
  | cons a _ _ ih => exact .cons a.val ih
theorem relkv_len {H : Hp} {mu : List Addr} {fs : List (D × D)} {gs : List (Key × V)} (r : RelKV w H mu fs gs) : fs.length = gs.length := by
  induction r with
  | nil => rfl
  | cons _ _ _ ih => simp [ih]
theorem bl_list {K : PySem.W.Frag} (hK : K = w.K) : BiL w (biD .list) (fun xs H Q => (∃ p ys, xs = [.ref p] ∧ (SqL K H p ys ∨ SqT K H p ys) ∧ ∀ l, H l = none → Q (.ref l) (upd H l (.lst ys))) ∨
    ∃ (a : Addr) (kvs : List (Key × V)), xs = [.ref a] ∧ Rd H a (.dK kvs) ∧ ∀ p, H p = none → Q (.ref p) (upd H p (.lst (kvs.map fun kv => kV kv.1)))) := by
  intro W σ H mu S ds vs Q rs rd h
  match ds, rd, h with
  | [], rd, h => exact h.elim
  | d :: _ :: _, rd, h => exact (by cases d <;> exact h.elim)
  | [d], rd, h =>
    obtain ⟨v, rfl, r⟩ := rel1 rd
    have h1 : Post w (RelD w) W σ H mu (match walkD d S with
      | some xs => if xs.length ≤ sizeLine then alloc (.lst xs) S else .stuck
      | none => .stuck) Q := h
    cases e : walkD d S with
    | none => rw [e] at h1; exact h1.elim
    | some xs =>
      rw [e] at h1
      dsimp only at h1
      split at h1
      · rename_i hl
        have tame : itemsD d S = some xs → ((∃ p ys, [v] = [V.ref p] ∧ (SqL K H p ys ∨ SqT K H p ys) ∧ ∀ l, H l = none → Q (.ref l) (upd H l (.lst ys))) ∨
            ∃ (a : Addr) (kvs : List (Key × V)), [v] = [V.ref a] ∧ Rd H a (.dK kvs) ∧ ∀ p, H p = none → Q (.ref p) (upd H p (.lst (kvs.map fun kv => kV kv.1)))) := fun e => by
          obtain ⟨a, us, rfl, rr, l, q⟩ := items_rel hK rs r e
          exact .inl ⟨a, us, rfl, q.elim (fun z => .inl z.1) (fun z => .inr z.1.sq), fun p hp => post_lst rs rr hl h1 hp⟩
        cases r with
        | @ref n a hm =>
          unfold walkD at e
          dsimp only at e
          split at e
          · rename_i ys e2
            exact tame (by simp only [itemsD, e2]; exact e)
          · rename_i lk kvs e2
            cases e
            obtain ⟨a', gs, ea, _, rkv, _, _, rdd, _⟩ := rs.dic (.ref hm) e2
            cases ea
            exact .inr ⟨a, gs, rfl, rdd, fun p hp => post_lst rs (walk_keys rkv) hl h1 hp⟩
          · rename_i ys e2
            exact ((rs.obj _ _ _ e2 hm : False)).elim
          · cases e
        | non => exact tame e
        | bl => exact tame e
        | int => exact tame e
        | str ok => exact tame e
        | tup t rr l => exact tame e
        | scr => exact tame e
      · exact h1.elim
theorem bl_tuple {K : PySem.W.Frag} (hK : K = w.K) : BiL w (biD .tuple) (fun xs H Q => ∃ p ys, xs = [.ref p] ∧ ((SqL K H p ys ∧ ∀ l, H l = none → Q (.ref l) (upd H l (.tup ys))) ∨ (SqT K H p ys ∧ Q (.ref p) H))) := by
  intro W σ H mu S ds vs Q rs rd h
  match ds, rd, h with
  | [], rd, h => exact h.elim
  | d :: _ :: _, rd, h => exact (by cases d <;> exact h.elim)
  | [d], rd, h =>
    obtain ⟨v, rfl, r⟩ := rel1 rd
    have h1 : Post w (RelD w) W σ H mu (match itemsD d S with
      | some xs => if xs.length ≤ sizeLine then .ok (.tup xs) S else .stuck
      | none => .stuck) Q := h
    cases e : itemsD d S with
    | none => rw [e] at h1; exact h1.elim
    | some xs =>
      rw [e] at h1
      dsimp only at h1
      split at h1
      · rename_i hl
        obtain ⟨a, us, rfl, rr, l, q⟩ := items_rel hK rs r e
        rcases q with ⟨q, _⟩ | ⟨q, _⟩
        · exact ⟨a, us, rfl, .inl ⟨q, fun p hp => post_tup rs rr hl h1 hp⟩⟩
        · exact ⟨a, us, rfl, .inr ⟨q.sq, Post.ok (Rel := RelD w) h1 rs (.tup (hK ▸ q) rr hl)⟩⟩
      · exact h1.elim
theorem bl_dict : BiL w (biD .dict) (fun xs H Q => ∃ (a : Addr) (kvs : List (Key × V)), xs = [.ref a] ∧ Rd H a (.dK kvs) ∧ ∀ p, H p = none → Q (.ref p) (upd H p (.dK kvs))) := by
  intro W σ H mu S ds vs Q rs rd h
  match ds, rd, h with
  | [], rd, h => exact h.elim
  | d :: _ :: _, rd, h => exact (by cases d <;> exact h.elim)
  | [d], rd, h =>
    obtain ⟨v, rfl, r⟩ := rel1 rd
    cases r with
    | @ref n a hm =>
      have h1 : Post w (RelD w) W σ H mu (match S[n]? with
        | some (.dic _ kvs) => alloc (.dic false kvs) S
        | _ => .stuck) Q := h
      split at h1
      · rename_i lk kvs e
        obtain ⟨a', gs, ea, _, rkv, nd, hl, rdd, _⟩ := rs.dic (.ref hm) e
        cases ea
        exact ⟨a, gs, rfl, rdd, fun p hp => post_new rs h1 hp ⟨gs, rkv.mono (Keep.new hp) (List.prefix_append _ _), nd, hl, upd_same⟩⟩
      · exact h1.elim
    | _ => exact h.elim
/-- int(i), int(b) -/
theorem bl_int : BiL w (fun ds S => match ds with
    | [.int i] => .ok (.int i) S
    | [.bl b] => .ok (.int (if b then 1 else 0)) S
    | _ => .stuck) (fun xs H Q => (∃ i, xs = [.int i] ∧ Q (.int i) H) ∨ ∃ k, xs = [.bl k] ∧ Q (.int (if k then 1 else 0)) H) := by
  intro W σ H mu S ds vs Q rs rd h
  dsimp only at h
  split at h
  · obtain ⟨v, rfl, r⟩ := rel1 rd
    cases r
    exact .inl ⟨_, rfl, Post.ok (Rel := RelD w) h rs .int⟩
  · obtain ⟨v, rfl, r⟩ := rel1 rd
    cases r
    exact .inr ⟨_, rfl, Post.ok (Rel := RelD w) h rs .int⟩
  · exact h.elim

/-! ### sorting -/
theorem le_antisymm_list : ∀ {a b : List Nat}, ¬ b < a → ¬ a < b → a = b := fun {a b} h1 h2 => List.le_antisymm (List.not_lt.mp h1) (List.not_lt.mp h2)
theorem ins_perm {α : Type} (le : α → α → Bool) (x : α) : ∀ l : List α, (ins le x l).Perm (x :: l)
  | [] => .refl _
  | y :: ys => by
    unfold ins
    split
    · exact .refl _
    · exact ((ins_perm le x ys).cons y).trans (.swap x y ys)
theorem isort_perm {α : Type} (le : α → α → Bool) : ∀ l : List α, (isort le l).Perm l
  | [] => .refl _
  | x :: xs => (ins_perm le x _).trans ((isort_perm le xs).cons x)
theorem ins_pair {α : Type} {le : α → α → Bool} (tot : ∀ a b, le a b = false → le b a = true) (tr : ∀ a b c, le a b = true → le b c = true → le a c = true) (x : α) : ∀ {l : List α}, l.Pairwise (fun a b => le a b = true) → (ins le x l).Pairwise fun a b => le a b = true
  | [], _ => by simp [ins]
  | y :: ys, h => by
    unfold ins
    split
    · rename_i hxy
      refine List.Pairwise.cons (fun z hz => ?_) h
      rcases List.mem_cons.mp hz with rfl | hz
      · exact hxy
      · exact tr _ _ _ hxy (List.rel_of_pairwise_cons h hz)
    · rename_i hxy
      have hxy : le x y = false := by simpa using hxy
      refine List.Pairwise.cons (fun z hz => ?_) (ins_pair tot tr x h.of_cons)
      rcases List.mem_cons.mp ((ins_perm le x ys).mem_iff.mp hz) with rfl | hz
      · exact tot _ _ hxy
      · exact List.rel_of_pairwise_cons h hz
theorem isort_pair {α : Type} {le : α → α → Bool} (tot : ∀ a b, le a b = false → le b a = true) (tr : ∀ a b c, le a b = true → le b c = true → le a c = true) : ∀ l : List α, (isort le l).Pairwise fun a b => le a b = true
  | [] => List.Pairwise.nil
  | x :: xs => ins_pair tot tr x (isort_pair tot tr xs)
theorem leI_tot (a b : Int) (h : leI a b = false) : leI b a = true := by unfold leI at *; simp at *; omega
theorem leI_tr (a b c : Int) (h : leI a b = true) (h' : leI b c = true) : leI a c = true := by unfold leI at *; simp at *; omega
theorem leS_tot (a b : List Nat) (h : leS a b = false) : leS b a = true := by
  unfold leS at *
  simp at *
  exact List.le_of_lt h
theorem leS_tr (a b c : List Nat) (h : leS a b = true) (h' : leS b c = true) : leS a c = true := by
  unfold leS at *
  simp at *
  exact List.le_trans h h'
theorem sort_ints {ns ns' : List Int} (p : ns'.Perm ns) (h : ns'.Pairwise (· ≤ ·)) : ns' = isort leI ns := by
  have h2 : (isort leI ns).Pairwise (· ≤ ·) := (isort_pair leI_tot leI_tr ns).imp fun {a b} h => by unfold leI at h; simpa using h
  exact List.Perm.eq_of_pairwise (fun x y _ _ h1 h2 => Int.le_antisymm h1 h2) h h2 (p.trans (isort_perm leI ns).symm)
theorem ltCps_eq : ∀ a b : List Nat, ltCps a b = decide (a < b)
  | [], [] => by simp [ltCps]
  | [], b :: bs => by simp [ltCps]
  | a :: as, [] => by simp [ltCps]
  | a :: as, b :: bs => by
    simp only [ltCps, ltCps_eq as bs, List.cons_lt_cons_iff]
    rw [Bool.eq_iff_iff]
    simp
theorem rising_pair : ∀ (p : Str) (l : List Str), risingS p l = true → (p :: l).Pairwise fun a b => leS a.cps.toList b.cps.toList = true
  | p, [], _ => by simp
  | p, x :: r, h => by
    simp only [risingS, ltCps_eq, Bool.and_eq_true] at h
    have ih := rising_pair x r h.2
    refine List.Pairwise.cons (fun z hz => ?_) ih
    have hx : leS p.cps.toList x.cps.toList = true := h.1
    rcases List.mem_cons.mp hz with rfl | hz
    · exact hx
    · exact leS_tr _ _ _ hx (List.rel_of_pairwise_cons ih hz)
theorem sorted_pair : ∀ l : List Str, sortedS l = true → l.Pairwise fun a b => leS a.cps.toList b.cps.toList = true
  | [], _ => List.Pairwise.nil
  | x :: r, h => rising_pair x r h
theorem S2_of (x : Str) : S2 x.cps.toList = x := by simp [S2]
theorem sort_strs {zs : List (List Nat)} {ys : List Str} (p : ys.Perm (zs.map S2)) (h : sortedS ys = true) : ys = (isort leS zs).map S2 := by
  have e : ys = (ys.map fun y => y.cps.toList).map S2 := by
    rw [List.map_map]
    conv => lhs; rw [← List.map_id ys]
    exact List.map_congr_left fun y _ => (S2_of y).symm
  have p2 : (ys.map fun y => y.cps.toList).Perm zs := by
    have := p.map fun y => y.cps.toList
    rw [List.map_map] at this
    have e2 : zs.map ((fun y : Str => y.cps.toList) ∘ S2) = zs := by
      conv => rhs; rw [← List.map_id zs]
      exact List.map_congr_left fun y _ => S2_list y
    rwa [e2] at this
  have h1 : (ys.map fun y => y.cps.toList).Pairwise fun a b => leS a b = true := List.pairwise_map.mpr (sorted_pair ys h)
  have key : ys.map (fun y => y.cps.toList) = isort leS zs := List.Perm.eq_of_pairwise (fun x y _ _ h1 h2 => by
    unfold leS at h1 h2
    simp only [Bool.not_eq_true', decide_eq_false_iff_not] at h1 h2
    exact le_antisymm_list h1 h2) h1 (isort_pair leS_tot leS_tr zs) (p2.trans (isort_perm leS zs).symm)
  rw [← key]
  exact e
abbrev rSortAll (K : PySem.W.Frag) : List V → Hp → VK → Prop := fun xs H Q => rSortedS K xs H Q ∨ (rSorted K xs H Q ∨
  ((∃ (a : Addr) (kvs : List (Key × V)) (ks : List Str), xs = [.ref a] ∧ Rd H a (.dK kvs) ∧ kvs.map (·.1) = ks.map Sum.inr ∧ ks.length < 64 ∧ ∀ ys p, ys.Perm ks → sortedS ys = true → H p = none → Q (.ref p) (upd H p (.lst (ys.map V.str)))) ∨
   (∃ (a : Addr) (kvs : List (Key × V)) (ks : List Int), xs = [.ref a] ∧ Rd H a (.dK kvs) ∧ kvs.map (·.1) = ks.map Sum.inl ∧ ks.length < 64 ∧ ∀ (ys : List Int) (p : Addr), ys.Perm ks → ys.Pairwise (· ≤ ·) → H p = none → Q (.ref p) (upd H p (.lst (ys.map V.int))))))
theorem kvs_ints {H : Hp} {mu : List Addr} {kvs : List (D × D)} {gs : List (Key × V)} (r : RelKV w H mu kvs gs) : ∀ {ns : List Int}, ints? (kvs.map (·.1)) = some ns → gs.map (·.1) = ns.map Sum.inl := by
  induction r with
  | nil => intro ns e; cases e; rfl
  | cons a _ _ ih =>
    intro ns e
    unfold ints? at e
    simp only [List.map_cons, optAll] at e
    split at e
    · rename_i y ys e1 e2
      cases e
      cases a <;> simp only [reduceCtorEq, Option.some.injEq] at e1
      subst e1
      rw [List.map_cons, List.map_cons, ih e2]
    · cases e
theorem kvs_strs {H : Hp} {mu : List Addr} {kvs : List (D × D)} {gs : List (Key × V)} (r : RelKV w H mu kvs gs) : ∀ {zs : List (List Nat)}, strs? (kvs.map (·.1)) = some zs → gs.map (·.1) = (zs.map S2).map Sum.inr ∧ ∀ z ∈ zs, okStr z := by
  induction r with
  | nil => intro ns e; cases e; exact ⟨rfl, fun _ h => nomatch h⟩
  | cons a _ _ ih =>
    intro ns e
    unfold strs? at e
    simp only [List.map_cons, optAll] at e
    split at e
    · rename_i y ys e1 e2
      cases e
      cases a <;> simp only [reduceCtorEq, Option.some.injEq] at e1
      rename_i ok
      subst e1
      obtain ⟨h1, h2⟩ := ih e2
      refine ⟨by rw [List.map_cons, h1]; rfl, fun z hz => ?_⟩
      rcases List.mem_cons.mp hz with rfl | hz
      · exact ok
      · exact h2 z hz
    · cases e
theorem optAll_len {α β : Type} {f : α → Option β} : ∀ {xs : List α} {ys : List β}, optAll f xs = some ys → ys.length = xs.length
  | [], ys, e => by cases e; rfl
  | x :: xs, ys, e => by
    simp only [optAll] at e
    split at e
    · rename_i y zs e1 e2
      cases e
      simp [optAll_len e2]
    · cases e
theorem isort_len {α : Type} (le : α → α → Bool) (l : List α) : (isort le l).length = l.length := (isort_perm le l).length_eq
theorem line64 : 64 ≤ sizeLine := by decide
theorem bl_sorted {K : PySem.W.Frag} (hK : K = w.K) : BiL w (biD .sorted) (rSortAll K) := by
  intro W σ H mu S ds vs Q rs rd h
  match ds, rd, h with
  | [], rd, h => exact h.elim
  | d :: _ :: _, rd, h => exact (by cases d <;> exact h.elim)
  | [d], rd, h =>
    obtain ⟨v, rfl, r⟩ := rel1 rd
    have h1 : Post w (RelD w) W σ H mu (match (walkS d S).bind sortL with
      | some xs => alloc (.lst xs) S
      | none => .stuck) Q := h
    cases e : walkS d S with
    | none => rw [e] at h1; exact h1.elim
    | some xs =>
      rw [e] at h1
      dsimp only [Option.bind] at h1
      unfold sortL at h1
      by_cases h64 : 64 ≤ xs.length
      · rw [if_pos h64] at h1; exact h1.elim
      · rw [if_neg h64] at h1
        have h64' : xs.length < 64 := Nat.lt_of_not_le h64
        have fin_i : ∀ {ns : List Int}, ints? xs = some ns → ∀ (ns' : List Int) (p : Addr), ns'.Perm ns → ns'.Pairwise (· ≤ ·) → H p = none → Q (.ref p) (upd H p (.lst (ns'.map V.int))) := fun {ns} e2 ns' p pm pw hp => by
          rw [e2] at h1
          rw [sort_ints pm pw]
          exact post_lst rs (rel_ints _) (by rw [List.length_map, isort_len, optAll_len e2]; exact Nat.le_trans (Nat.le_of_lt h64') line64) h1 hp
        have fin_s : ∀ {zs : List (List Nat)}, ints? xs = none → strs? xs = some zs → (∀ z ∈ zs, okStr z) → ∀ (ys : List Str) (p : Addr), ys.Perm (zs.map S2) → sortedS ys = true → H p = none → Q (.ref p) (upd H p (.lst (ys.map V.str))) := fun {zs} e3 e2 ok ys p pm pw hp => by
          rw [e3, e2] at h1
          rw [sort_strs pm pw]
          exact post_lst rs (rel_strs fun z hz => ok z ((isort_perm leS zs).mem_iff.mp hz)) (by rw [List.length_map, isort_len, optAll_len e2]; exact Nat.le_trans (Nat.le_of_lt h64') line64) h1 hp
        have tame : ∀ a us, v = V.ref a → SqL K H a us → RelDs w H mu xs us → rSortAll K [v] H Q := fun a us ev hs rr => by
          subst ev
          cases e2 : ints? xs with
          | some ns =>
            obtain ⟨_, eu⟩ := ints_rel rr e2
            rw [eu] at hs
            exact .inr (.inl ⟨a, ns, rfl, hs, by rw [optAll_len e2]; exact h64', fin_i e2⟩)
          | none =>
            cases e3 : strs? xs with
            | some zs =>
              obtain ⟨_, eu, ok⟩ := strs_rel rr e3
              rw [eu] at hs
              exact .inl ⟨a, zs.map S2, rfl, hs, by rw [List.length_map, optAll_len e3]; exact h64', fin_s e2 e3 ok⟩
            | none => rw [e2, e3] at h1; exact h1.elim
        cases r with
        | @ref n a hm =>
          simp only [walkS, notTup, if_true, walkD] at e
          split at e
          · rename_i ys e2
            cases e
            obtain ⟨us, rr, ha, _⟩ := rs.obj _ _ _ e2 hm
            exact tame a us rfl (SqL.of ha) rr
          · rename_i lk kvs e2
            cases e
            obtain ⟨a', gs, ea, _, rkv, _, _, rdd, _⟩ := rs.dic (.ref hm) e2
            cases ea
            cases e2 : ints? (kvs.map (·.1)) with
            | some ns => exact .inr (.inr (.inr ⟨a, gs, ns, rfl, rdd, kvs_ints rkv e2, by rw [optAll_len e2]; exact h64', fin_i e2⟩))
            | none =>
              cases e3 : strs? (kvs.map (·.1)) with
              | some zs =>
                obtain ⟨h1', ok⟩ := kvs_strs rkv e3
                exact .inr (.inr (.inl ⟨a, gs, zs.map S2, rfl, rdd, h1', by rw [List.length_map, optAll_len e3]; exact h64', fin_s e2 e3 ok⟩))
              | none => rw [e2, e3] at h1; exact h1.elim
          · rename_i ys e2
            exact ((rs.obj _ _ _ e2 hm : False)).elim
          · cases e
        | non => cases e
        | bl => cases e
        | int => cases e
        | str ok => cases e
        | tup t rr l => cases e
        | scr =>
          have e' : w.ns0.map D.int = xs := Option.some.inj e
          subst e'
          exact tame _ _ rfl (hK ▸ rs.scr.sq) (rel_ints _)

/-! ### all, max, min -/
theorem bools_rel {H : Hp} {mu : List Addr} : ∀ {ds : List D} {vs : List V} {bs : List Bool}, RelDs w H mu ds vs → bools? ds = some bs → vs = bs.map V.bl
  | _, _, _, .nil, e => by cases e; rfl
  | d :: ds, v :: vs, ns, .cons a b, e => by
    unfold bools? at e
    simp only [optAll] at e
    split at e
    · rename_i y ys e1 e2
      cases e
      have h2 := bools_rel (bs := ys) b e2
      cases a <;> simp only [reduceCtorEq, Option.some.injEq] at e1
      subst e1
      rw [h2]; rfl
    · cases e
/-- a list, read -/
theorem list_rel {K : PySem.W.Frag} {H : Hp} {mu : List Addr} {S : Store} (hK : K = w.K) (rs : RelS w H mu S) {d : D} {v : V} {xs : List D} (rd : RelD w H mu d v) (h : itemsL d S = some xs) : ∃ a vs, v = .ref a ∧ RelDs w H mu xs vs ∧ SqL K H a vs := by
  unfold itemsL at h
  by_cases e : notTup d = true
  · rw [if_pos e] at h
    obtain ⟨a, vs, ev, rr, _, q⟩ := items_rel hK rs rd h
    rcases q with ⟨q, _⟩ | ⟨_, q⟩
    · exact ⟨a, vs, ev, rr, q⟩
    · subst q; cases e
  · rw [if_neg e] at h; cases h
theorem bl_all {K : PySem.W.Frag} (hK : K = w.K) : BiL w (biD .all) (rAll K) := by
  intro W σ H mu S ds vs Q rs rd h
  match ds, rd, h with
  | [], rd, h => exact h.elim
  | d :: _ :: _, rd, h => exact (by cases d <;> exact h.elim)
  | [d], rd, h =>
    obtain ⟨v, rfl, r⟩ := rel1 rd
    have h1 : Post w (RelD w) W σ H mu (match (itemsL d S).bind bools? with
      | some bs => .ok (.bl (bs.all id)) S
      | none => .stuck) Q := h
    cases e : itemsL d S with
    | none => rw [e] at h1; exact h1.elim
    | some xs =>
      rw [e] at h1
      dsimp only [Option.bind] at h1
      cases e2 : bools? xs with
      | none => rw [e2] at h1; exact h1.elim
      | some bs =>
        rw [e2] at h1
        obtain ⟨a, us, rfl, rr, hs⟩ := list_rel hK rs r e
        rw [bools_rel rr e2] at hs
        exact ⟨a, bs, rfl, hs, Post.ok (Rel := RelD w) h1 rs .bl⟩
theorem maxI_mem : ∀ (n : Int) (l : List Int), maxI n l ∈ n :: l ∧ ∀ y ∈ n :: l, y ≤ maxI n l
  | n, [] => ⟨by simp [maxI], fun y hy => by have : y = n := by simpa using hy
                                             subst this; exact Int.le_refl _⟩
  | n, x :: l => by
    obtain ⟨h1, h2⟩ := maxI_mem (if x > n then x else n) l
    have e : maxI n (x :: l) = maxI (if x > n then x else n) l := rfl
    rw [e]
    have h3 := h2 _ (List.mem_cons_self ..)
    generalize maxI (if x > n then x else n) l = M at *
    refine ⟨?_, fun y hy => ?_⟩
    · rcases List.mem_cons.mp h1 with z | z
      · rw [z]
        split
        · simp
        · simp
      · simp [z]
    · rcases List.mem_cons.mp hy with rfl | hy
      · split at h3 <;> omega
      · rcases List.mem_cons.mp hy with rfl | hy
        · split at h3 <;> omega
        · exact h2 y (List.mem_cons_of_mem _ hy)
theorem minI_mem : ∀ (n : Int) (l : List Int), minI n l ∈ n :: l ∧ ∀ y ∈ n :: l, minI n l ≤ y
  | n, [] => ⟨by simp [minI], fun y hy => by have : y = n := by simpa using hy
                                             subst this; exact Int.le_refl _⟩
  | n, x :: l => by
    obtain ⟨h1, h2⟩ := minI_mem (if x < n then x else n) l
    have e : minI n (x :: l) = minI (if x < n then x else n) l := rfl
    rw [e]
    have h3 := h2 _ (List.mem_cons_self ..)
    generalize minI (if x < n then x else n) l = M at *
    refine ⟨?_, fun y hy => ?_⟩
    · rcases List.mem_cons.mp h1 with z | z
      · rw [z]
        split
        · simp
        · simp
      · simp [z]
    · rcases List.mem_cons.mp hy with rfl | hy
      · split at h3 <;> omega
      · rcases List.mem_cons.mp hy with rfl | hy
        · split at h3 <;> omega
        · exact h2 y (List.mem_cons_of_mem _ hy)
theorem call_max2S {X : Cx} (hc : X.calm = true) : CallR X (.builtin "max") (fun xs H Q => ∃ x y : Str, xs = [.str x, .str y] ∧ Q (.str (if x.cps.toList < y.cps.toList then y else x)) H) := by
  intro pins s σ H xs us Q I r h
  obtain ⟨x, y, rfl, q⟩ := h
  obtain ⟨u, w', rfl, ⟨t, rfl⟩, ⟨t', rfl⟩⟩ := vals2 r
  have hh := I.ok.hd hc
  have hT : (s.heap.push { cls := .type "tuple", data := .seq #[.str x t, .str y t'] }).IsTuple s.heap.objs.size #[.str x t, .str y t'] := ⟨_, Heap.get?_push_size _ rfl, rfl, 0, rfl⟩
  refine call_max_two (wpAny_pyIter_tuple hT ?_)
  have hsz : (s.heap.push { cls := .type "tuple", data := .seq #[.str x t, .str y t'] }).objs.size = s.heap.objs.size + 1 := Heap.size_push ..
  refine ⟨_, [_, s.heap.objs.size], [_], _, _, _, _, rfl, Walks.tuple (A := X.A.in1) hh _ s.heap.objs.size (by rw [hsz]; exact Nat.ne_of_lt (Nat.lt_succ_self _)) #[.str x t, .str y t'],
    ⟨⟨_, Heap.get?_push_size _ rfl, rfl, rfl⟩, hT.push _⟩, fun c hc => ?_, by simp, (?cmp : CmpOf X.prog X.w X.A.in1 .Gt _ (fun i j => decide ((if j = 0 then x else y).cps.toList < (if i = 0 then x else y).cps.toList))), fun v h' tk hP hk => ?_⟩
  case cmp =>
    intro i j vi vj s Q E hi hj h
    have look : ∀ (i : Nat) (v : Value), (#[Value.str x t, Value.str y t'])[i]? = some v → ∃ t, v = .str (if i = 0 then x else y) t := fun i v e => by
      match i, e with
      | 0, e => cases e; exact ⟨t, rfl⟩
      | 1, e => cases e; exact ⟨t', rfl⟩
      | i + 2, e => simp at e
    obtain ⟨t1, rfl⟩ := look i vi hi
    obtain ⟨t2, rfl⟩ := look j vj hj
    exact richCompare_gives (op := .Gt) (typeIs_str s _ t1) (typeIs_str s _ t2) F.slot_str_gt F.entry_str_gt (F.args_str_gt_2 _ _) (gives_str_gt _ _ t1 t2) (fun x => nomatch x) h
  · show c < ((s.heap.push _).push _).objs.size
    rw [Heap.size_push, hsz]
    rcases List.mem_cons.mp hc with rfl | hc
    · rw [hsz]; exact Nat.lt_succ_self _
    · rcases List.mem_cons.mp hc with rfl | hc
      · exact Nat.lt_succ_of_lt (Nat.lt_succ_self _)
      · cases hc
  · have hold : ∀ c o, s.heap.get? c = some o → h'.get? c = some o := fun c o e => by
      refine hk c o (fun hm => ?_) (Heap.get?_push_of_some _ (Heap.get?_push_of_some _ e))
      rcases List.mem_cons.mp hm with e1 | hm
      · have := Heap.lt_size e; rw [e1, hsz] at this; exact Nat.lt_irrefl _ (Nat.lt_of_succ_lt this)
      · cases hm
    refine ⟨.str (if x.cps.toList < y.cps.toList then y else x), H, I.kept hold, ?_, q⟩
    have hP' : (#[Value.str x t, Value.str y t'])[argBest (fun i j => decide ((if j = 0 then x else y).cps.toList < (if i = 0 then x else y).cps.toList)) 1]? = some v := hP
    by_cases hba : x.cps.toList < y.cps.toList
    · have e : argBest (fun i j => decide ((if j = 0 then x else y).cps.toList < (if i = 0 then x else y).cps.toList)) 1 = 1 := by simp [argBest, hba]
      rw [e] at hP'
      cases hP'
      rw [if_pos hba]
      exact ⟨t', rfl⟩
    · have e : argBest (fun i j => decide ((if j = 0 then x else y).cps.toList < (if i = 0 then x else y).cps.toList)) 1 = 0 := by simp [argBest, hba]
      rw [e] at hP'
      cases hP'
      rw [if_neg hba]
      exact ⟨t, rfl⟩
theorem call_min2S {X : Cx} (hc : X.calm = true) : CallR X (.builtin "min") (fun xs H Q => ∃ x y : Str, xs = [.str x, .str y] ∧ Q (.str (if y.cps.toList < x.cps.toList then y else x)) H) := by
  intro pins s σ H xs us Q I r h
  obtain ⟨x, y, rfl, q⟩ := h
  obtain ⟨u, w', rfl, ⟨t, rfl⟩, ⟨t', rfl⟩⟩ := vals2 r
  have hh := I.ok.hd hc
  have hT : (s.heap.push { cls := .type "tuple", data := .seq #[.str x t, .str y t'] }).IsTuple s.heap.objs.size #[.str x t, .str y t'] := ⟨_, Heap.get?_push_size _ rfl, rfl, 0, rfl⟩
  refine call_min_two (wpAny_pyIter_tuple hT ?_)
  have hsz : (s.heap.push { cls := .type "tuple", data := .seq #[.str x t, .str y t'] }).objs.size = s.heap.objs.size + 1 := Heap.size_push ..
  refine ⟨_, [_, s.heap.objs.size], [_], _, _, _, _, rfl, Walks.tuple (A := X.A.in1) hh _ s.heap.objs.size (by rw [hsz]; exact Nat.ne_of_lt (Nat.lt_succ_self _)) #[.str x t, .str y t'],
    ⟨⟨_, Heap.get?_push_size _ rfl, rfl, rfl⟩, hT.push _⟩, fun c hc => ?_, by simp, (?cmp : CmpOf X.prog X.w X.A.in1 .Lt _ (fun i j => decide ((if i = 0 then x else y).cps.toList < (if j = 0 then x else y).cps.toList))), fun v h' tk hP hk => ?_⟩
  case cmp =>
    intro i j vi vj s Q E hi hj h
    have look : ∀ (i : Nat) (v : Value), (#[Value.str x t, Value.str y t'])[i]? = some v → ∃ t, v = .str (if i = 0 then x else y) t := fun i v e => by
      match i, e with
      | 0, e => cases e; exact ⟨t, rfl⟩
      | 1, e => cases e; exact ⟨t', rfl⟩
      | i + 2, e => simp at e
    obtain ⟨t1, rfl⟩ := look i vi hi
    obtain ⟨t2, rfl⟩ := look j vj hj
    exact richCompare_gives (op := .Lt) (typeIs_str s _ t1) (typeIs_str s _ t2) F.slot_str_lt F.entry_str_lt (F.args_str_lt_2 _ _) (gives_str_lt _ _ t1 t2) (fun x => nomatch x) h
  · show c < ((s.heap.push _).push _).objs.size
    rw [Heap.size_push, hsz]
    rcases List.mem_cons.mp hc with rfl | hc
    · rw [hsz]; exact Nat.lt_succ_self _
    · rcases List.mem_cons.mp hc with rfl | hc
      · exact Nat.lt_succ_of_lt (Nat.lt_succ_self _)
      · cases hc
  · have hold : ∀ c o, s.heap.get? c = some o → h'.get? c = some o := fun c o e => by
      refine hk c o (fun hm => ?_) (Heap.get?_push_of_some _ (Heap.get?_push_of_some _ e))
      rcases List.mem_cons.mp hm with e1 | hm
      · have := Heap.lt_size e; rw [e1, hsz] at this; exact Nat.lt_irrefl _ (Nat.lt_of_succ_lt this)
      · cases hm
    refine ⟨.str (if y.cps.toList < x.cps.toList then y else x), H, I.kept hold, ?_, q⟩
    have hP' : (#[Value.str x t, Value.str y t'])[argBest (fun i j => decide ((if i = 0 then x else y).cps.toList < (if j = 0 then x else y).cps.toList)) 1]? = some v := hP
    by_cases hba : y.cps.toList < x.cps.toList
    · have e : argBest (fun i j => decide ((if i = 0 then x else y).cps.toList < (if j = 0 then x else y).cps.toList)) 1 = 1 := by simp [argBest, hba]
      rw [e] at hP'
      cases hP'
      rw [if_pos hba]
      exact ⟨t', rfl⟩
    · have e : argBest (fun i j => decide ((if i = 0 then x else y).cps.toList < (if j = 0 then x else y).cps.toList)) 1 = 0 := by simp [argBest, hba]
      rw [e] at hP'
      cases hP'
      rw [if_neg hba]
      exact ⟨t, rfl⟩
abbrev rMaxAll (K : PySem.W.Frag) : List V → Hp → VK → Prop := fun xs H Q => (∃ i j, xs = [.int i, .int j] ∧ Q (.int (if j > i then j else i)) H) ∨ ((∃ x y : Str, xs = [.str x, .str y] ∧ Q (.str (if x.cps.toList < y.cps.toList then y else x)) H) ∨ rMax K xs H Q)
abbrev rMinAll (K : PySem.W.Frag) : List V → Hp → VK → Prop := fun xs H Q => (∃ i j, xs = [.int i, .int j] ∧ Q (.int (if j < i then j else i)) H) ∨ ((∃ x y : Str, xs = [.str x, .str y] ∧ Q (.str (if y.cps.toList < x.cps.toList then y else x)) H) ∨ rMin K xs H Q)
theorem bl_max {K : PySem.W.Frag} (hK : K = w.K) : BiL w (biD .max) (rMaxAll K) := by
  intro W σ H mu S ds vs Q rs rd h
  match ds, rd, h with
  | [], rd, h => exact h.elim
  | _ :: _ :: _ :: _, rd, h => exact (by rename_i a b c d; cases a <;> cases b <;> exact h.elim)
  | [d, e], rd, h =>
    obtain ⟨v, u, rfl, r1, r2⟩ := rel2 rd
    cases r1 with
    | int =>
      cases r2 with
      | int => exact .inl ⟨_, _, rfl, Post.ok (Rel := RelD w) h rs .int⟩
      | _ => exact h.elim
    | @str x ox =>
      cases r2 with
      | @str y oy =>
        refine .inr (.inl ⟨_, _, rfl, ?_⟩)
        rw [S2_list, S2_list]
        have h1 : Post w (RelD w) W σ H mu (.ok (.str (if x < y then y else x)) S) Q := h
        by_cases hx : x < y
        · rw [if_pos hx] at h1 ⊢; exact Post.ok (Rel := RelD w) h1 rs (.str oy)
        · rw [if_neg hx] at h1 ⊢; exact Post.ok (Rel := RelD w) h1 rs (.str ox)
      | _ => exact h.elim
    | _ => cases r2 <;> exact h.elim
  | [d], rd, h =>
    obtain ⟨v, rfl, r⟩ := rel1 rd
    have h1 : Post w (RelD w) W σ H mu (match (itemsL d S).bind ints? with
      | some (n :: ns) => .ok (.int (maxI n ns)) S
      | _ => .stuck) Q := by cases r <;> exact h
    cases e : itemsL d S with
    | none => rw [e] at h1; exact h1.elim
    | some xs =>
      rw [e] at h1
      dsimp only [Option.bind] at h1
      split at h1
      · rename_i n ns e2
        obtain ⟨a, us, rfl, rr, hs⟩ := list_rel hK rs r e
        rw [(ints_rel rr e2).2] at hs
        refine .inr (.inr ⟨a, _, rfl, hs, by simp, fun m hm hl => ?_⟩)
        have e3 : m = maxI n ns := Int.le_antisymm ((maxI_mem n ns).2 m hm) (hl _ (maxI_mem n ns).1)
        rw [e3]
        exact Post.ok (Rel := RelD w) h1 rs .int
      · exact h1.elim
theorem bl_min {K : PySem.W.Frag} (hK : K = w.K) : BiL w (biD .min) (rMinAll K) := by
  intro W σ H mu S ds vs Q rs rd h
  match ds, rd, h with
  | [], rd, h => exact h.elim
  | _ :: _ :: _ :: _, rd, h => exact (by rename_i a b c d; cases a <;> cases b <;> exact h.elim)
  | [d, e], rd, h =>
    obtain ⟨v, u, rfl, r1, r2⟩ := rel2 rd
    cases r1 with
    | int =>
      cases r2 with
      | int => exact .inl ⟨_, _, rfl, Post.ok (Rel := RelD w) h rs .int⟩
      | _ => exact h.elim
    | @str x ox =>
      cases r2 with
      | @str y oy =>
        refine .inr (.inl ⟨_, _, rfl, ?_⟩)
        rw [S2_list, S2_list]
        have h1 : Post w (RelD w) W σ H mu (.ok (.str (if y < x then y else x)) S) Q := h
        by_cases hx : y < x
        · rw [if_pos hx] at h1 ⊢; exact Post.ok (Rel := RelD w) h1 rs (.str oy)
        · rw [if_neg hx] at h1 ⊢; exact Post.ok (Rel := RelD w) h1 rs (.str ox)
      | _ => exact h.elim
    | _ => cases r2 <;> exact h.elim
  | [d], rd, h =>
    obtain ⟨v, rfl, r⟩ := rel1 rd
    have h1 : Post w (RelD w) W σ H mu (match (itemsL d S).bind ints? with
      | some (n :: ns) => .ok (.int (minI n ns)) S
      | _ => .stuck) Q := by cases r <;> exact h
    cases e : itemsL d S with
    | none => rw [e] at h1; exact h1.elim
    | some xs =>
      rw [e] at h1
      dsimp only [Option.bind] at h1
      split at h1
      · rename_i n ns e2
        obtain ⟨a, us, rfl, rr, hs⟩ := list_rel hK rs r e
        rw [(ints_rel rr e2).2] at hs
        refine .inr (.inr ⟨a, _, rfl, hs, by simp, fun m hm hl => ?_⟩)
        have e3 : m = minI n ns := Int.le_antisymm (hl _ (minI_mem n ns).1) ((minI_mem n ns).2 m hm)
        rw [e3]
        exact Post.ok (Rel := RelD w) h1 rs .int
      · exact h1.elim
end
end Bs

set_option Elab.async false
set_option linter.all false
set_option maxRecDepth 100000
set_option maxHeartbeats 1000000
/-! Bs10: methods of lists, dicts. -/
namespace Bs
open PySem PySem.Spec L2

section
variable {w : Wd} {X : Cx} {W : WX} {o e : Expr} {es : List Expr} {mo : Mx D} {ms : Mx (List D)} {apos cpos : Pos} {T id : String} {name : Str} {r : V → List V → Hp → VK → Prop} {to : TE} {t : TA}
theorem pe_bmG {ty : V → Hp → Prop} (pa : PlainAttrs T) (slot : Slot T name id) (hty : typeOf (.builtin id) = pure (.type "method_descriptor")) (hm : MtR X id r) (ho : PE X o to) (ha : PA X (e :: es) t)
    (hT : ∀ (pins : List (Addr × Obj)) (s : Shared) (σ : St) (H : Hp) (x : V) (v : Value), Inv X pins σ H s → RelV x v → ty x H → s.TypeIs v T ∧ ∀ a, v = .ref a → ∃ ob, s.heap.get? a = some ob ∧ ob.dict = none)
    (hb : plainBase o = true) (hns : (e :: es).all notStar = true) (hl : (apos.endLine == cpos.line) = true) (hn : (e :: es).length < 30) :
    PE X (.Call (.Attribute o name apos) (e :: es) [] cpos) (fun σ H Q => to σ H fun x H1 => ty x H1 ∧ t σ H1 fun xs H2 => r x xs H2 Q) := by
  have hbase : attributeBase o name X.env (eval o X.env) = eval o X.env := base_ok hb
  have hfew : ((backTo cpos (starEach (e :: es) X.env)).all (fun x => !x.1) && (backToKw cpos (keywordEach [] X.env)).all (fun x => x.1.isSome)
      && decide ((e :: es).length + ([] : List Keyword).length + (if ([] : List Keyword).isEmpty then 0 else 1) < 30)) = true := by
    rw [star_all hns]
    show (true && true && decide ((e :: es).length + 0 + 0 < 30)) = true
    simp only [Bool.true_and, decide_eq_true_eq]
    omega
  rw [List.all_cons, Bool.and_eq_true] at hns
  refine ⟨fun pins s σ H Q I h => ?_⟩
  refine wpAny_Call_method_late hbase hfew hl rfl (thn (ho.run pins s σ H _ I h) fun v s1 ⟨x, H1, I1, r1, tyx, q1⟩ => ?_)
  obtain ⟨h1, h2⟩ := hT pins s1 σ H1 x v I1 r1 tyx
  refine ⟨T, id, pa, slot, hty, h1, h2, ?_⟩
  have hA := ha.run cpos pins s1 σ H1 _ I1 q1
  have hs := star_cons (es := es) (env := X.env) hns.1
  rw [hs] at hA ⊢
  refine Calls.callWith_builtin (by show (false || (backTo cpos (starEach es X.env)).any (·.1)) = false; rw [star_any hns.2]; rfl) (Calls.evalArgs_plain ?_)
  exact thn hA fun us s2 ⟨vs, H2, I2, r2, q2⟩ => hm pins s2 σ H2 x vs v us Q I2 r1 r2 q2

def mtS (sel : D → Store → Bool) (k : MK) (x : D) (S : Store) : Res MK := if sel x S = true then .ok k S else .stuck
/-- a method by values serves a method over data -/
def MtL (w : Wd) (f : D → List D → Store → Res D) (r : V → List V → Hp → VK → Prop) : Prop :=
  ∀ (W : WX) (σ : St) (H : Hp) (mu : List Addr) (S : Store) (d : D) (ds : List D) (v : V) (vs : List V) (Q : VK), RelS w H mu S → RelD w H mu d v → RelDs w H mu ds vs → Post w (RelD w) W σ H mu (f d ds S) Q → r v vs H Q
theorem se_bm {G : Lang} {m : Nm} {k : MK} {sel : D → Store → Bool} {ty : V → Hp → Prop} (pa : PlainAttrs T) (slot : Slot T (S2 m) id) (hty : typeOf (.builtin id) = pure (.type "method_descriptor")) (hm : MtR X id r) (ho : PE X o (liftE w W mo)) (ha : PA X (e :: es) (liftA w W ms))
    (hT : ∀ (pins : List (Addr × Obj)) (s : Shared) (σ : St) (H : Hp) (x : V) (v : Value), Inv X pins σ H s → RelV x v → ty x H → s.TypeIs v T ∧ ∀ a, v = .ref a → ∃ ob, s.heap.get? a = some ob ∧ ob.dict = none)
    (hs : ∀ {H : Hp} {mu : List Addr} {S : Store} {d : D} {v : V}, RelS w H mu S → RelD w H mu d v → sel d S = true → ty v H) (hl' : MtL w (fun d ds S => methD G m k d ds S) r)
    (hb : plainBase o = true) (hns : (e :: es).all notStar = true) (hl : (apos.endLine == cpos.line) = true) (hn : (e :: es).length < 30) :
    PE X (.Call (.Attribute o (S2 m) apos) (e :: es) [] cpos) (liftE w W (evM G (mtS sel k) mo m ms)) := by
  refine PE.imp (pe_bmG pa slot hty hm ho ha hT hb hns hl hn) fun σ H Q ⟨rho, S, mu, re, rs, z⟩ => ?_
  refine ⟨rho, S, mu, re, rs, (Post.bind (Rel := RelD w) z).imp fun v H1 ⟨d, S1, mu1, p1, rs1, rd1, k1, z⟩ => ?_⟩
  unfold mtS at z
  split at z
  · rename_i hsel
    refine ⟨hs rs1 rd1 hsel, rho, S1, mu1, re.mono k1 p1, rs1, (Post.bind (Rel := RelDs w) z).imp fun vs H2 ⟨ds, S2', mu2, p2, rs2, rds, k2, z⟩ => ?_⟩
    exact hl' W σ H2 mu2 S2' d ds v vs Q rs2 (rd1.mono k2 p2) rds z
  · exact z.elim
end

/-! ### lists -/
def selL (x : D) (S : Store) : Bool := match x with
  | .ref n => match S[n]? with
    | some (.lst _) => true
    | _ => false
  | _ => false
def tyL (x : V) (H : Hp) : Prop := ∃ p xs, x = .ref p ∧ H p = some (.lst xs)
theorem tyL_is {X : Cx} (pins : List (Addr × Obj)) (s : Shared) (σ : St) (H : Hp) (x : V) (v : Value) (I : Inv X pins σ H s) (r : RelV x v) (h : tyL x H) : s.TypeIs v "list" ∧ ∀ a, v = .ref a → ∃ ob, s.heap.get? a = some ob ∧ ob.dict = none := by
  obtain ⟨p, xs, rfl, e⟩ := h
  exact tyV_is I r (.inl ⟨rfl, xs, SqL.of e⟩)
section
variable {w : Wd} {H : Hp} {mu : List Addr} {S : Store} {d : D} {v : V}
theorem selL_is (rs : RelS w H mu S) (rd : RelD w H mu d v) (h : selL d S = true) : tyL v H := by
  unfold selL at h
  split at h
  · split at h
    · rename_i e
      cases rd with
      | ref hm =>
        obtain ⟨vs, _, ha, _⟩ := rs.obj _ _ _ e hm
        exact ⟨_, vs, rfl, ha⟩
    · cases h
  · cases h
/-- a list of the store is written -/
theorem post_put {W : WX} {σ : St} {n : Nat} {a : Addr} {ys : List D} {us vs : List V} {d : D} {x : V} {Q : VK} (rs : RelS w H mu S) (hm : mu[n]? = some a) (ha : H a = some (.lst us)) (rr : RelDs w H mu ys vs) (hl : ys.length ≤ sizeLine) (rd : RelD w H mu d x)
    (h : Post w (RelD w) W σ H mu ((putS n (.lst ys) S).bind fun _ S => .ok d S) Q) : Q x (upd H a (.lst vs)) := by
  have k : Keep H (upd H a (.lst vs)) := Keep.put ha (fun _ z => nomatch z) fun _ _ z => nomatch z
  exact h x _ mu (List.prefix_refl _) (rs.put hm ha (fun _ z => nomatch z) (fun _ _ z => nomatch z) (fun _ z => nomatch z) ⟨vs, rr.mono k (List.prefix_refl _), upd_same, hl⟩) (rd.mono k (List.prefix_refl _)) k
end
abbrev rLst (K : PySem.W.Frag) (m : Nm) : V → List V → Hp → VK → Prop := fun x vs H Q =>
  if m = mAppend then rAppend x vs H Q else if m = mExtend then rExtend x vs H Q else if m = mPop then rPopAt x vs H Q else rIndex K x vs H Q
section
variable {w : Wd}
theorem ml_append {G : Lang} : MtL w (fun d ds S => methD G mAppend .lst d ds S) rAppend := by
  intro W σ H mu S d ds v vs Q rs rd rds h
  cases rd <;> try (exact h.elim)
  rename_i n a hm
  have h1 : Post w (RelD w) W σ H mu (lstM mAppend n ds S) Q := h
  unfold lstM at h1
  split at h1
  · rename_i xs e
    rw [if_pos rfl] at h1
    split at h1
    · rename_i y
      split at h1
      · rename_i hl
        obtain ⟨us, rr, ha, l⟩ := rs.obj _ _ _ e hm
        obtain ⟨u, rfl, ru⟩ := rel1 rds
        exact ⟨a, us, u, rfl, rfl, ha, by rw [← rr.length]; exact hl, post_put rs hm ha (rr.append (.cons ru .nil)) (by rw [List.length_append]; exact hl) .non h1⟩
      · exact h1.elim
    · exact h1.elim
  · exact h1.elim
theorem ml_extend {G : Lang} : MtL w (fun d ds S => methD G mExtend .lst d ds S) rExtend := by
  intro W σ H mu S d ds v vs Q rs rd rds h
  cases rd <;> try (exact h.elim)
  rename_i n a hm
  have h1 : Post w (RelD w) W σ H mu (lstM mExtend n ds S) Q := h
  unfold lstM at h1
  split at h1
  · rename_i xs e
    rw [if_neg (by decide), if_pos rfl] at h1
    split at h1
    · rename_i k
      split at h1
      · rename_i ys e2
        split at h1
        · rename_i hl
          obtain ⟨us, rr, ha, l⟩ := rs.obj _ _ _ e hm
          obtain ⟨u, rfl, ru⟩ := rel1 rds
          cases ru with
          | @ref _ b hb =>
            obtain ⟨zs, rz, hb', _⟩ := rs.obj _ _ _ e2 hb
            exact ⟨a, b, us, zs, rfl, rfl, ha, hb', by rw [← rr.length, ← rz.length]; exact hl, post_put rs hm ha (rr.append rz) (by rw [List.length_append]; exact hl) .non h1⟩
        · exact h1.elim
      · exact h1.elim
    · exact h1.elim
  · exact h1.elim
end

/-! ### dicts -/
def selK (x : D) (S : Store) : Bool := match x with
  | .ref n => match S[n]? with
    | some (.dic _ _) => true
    | _ => false
  | _ => false
def tyK (x : V) (H : Hp) : Prop := ∃ p kvs, x = .ref p ∧ Rd H p (.dK kvs)
theorem tyK_is {X : Cx} (pins : List (Addr × Obj)) (s : Shared) (σ : St) (H : Hp) (x : V) (v : Value) (I : Inv X pins σ H s) (r : RelV x v) (h : tyK x H) : s.TypeIs v "dict" ∧ ∀ a, v = .ref a → ∃ ob, s.heap.get? a = some ob ∧ ob.dict = none := by
  obtain ⟨p, xs, rfl, e⟩ := h
  cases r
  obtain ⟨h1, h2, _⟩ := isD_at I (.inl ⟨xs, e⟩)
  exact ⟨h1, h2⟩
section
variable {w : Wd} {H : Hp} {mu : List Addr} {S : Store} {d : D} {v : V}
theorem selK_is (rs : RelS w H mu S) (rd : RelD w H mu d v) (h : selK d S = true) : tyK v H := by
  unfold selK at h
  split at h
  · split at h
    · rename_i e
      obtain ⟨a, gs, rfl, _, _, _, _, h6, _⟩ := rs.dic rd e
      exact ⟨a, gs, rfl, h6⟩
    · cases h
  · cases h
/-- a dict of the store is written -/
theorem post_dput {α : Type} {β : Type} {Rel : Hp → List Addr → α → β → Prop} {W : WX} {σ : St} {n : Nat} {a : Addr} {kvs : List (D × D)} {gs gs' : List (Key × V)} {d : α} {x : β} {Q : β → Hp → Prop} (rs : RelS w H mu S) (hm : mu[n]? = some a) (ha : H a = some (.dK gs)) (rr : RelKV w H mu kvs gs') (nd : (gs'.map (·.1)).Nodup) (hl : kvs.length ≤ sizeLine)
    (rd : ∀ H', Keep H H' → Rel H' mu d x) (h : Post w Rel W σ H mu ((putS n (.dic false kvs) S).bind fun _ S => .ok d S) Q) : Q x (upd H a (.dK gs')) := by
  have k : Keep H (upd H a (.dK gs')) := Keep.put ha (fun _ z => nomatch z) fun _ _ z => nomatch z
  exact h x _ mu (List.prefix_refl _) (rs.put hm ha (fun _ z => nomatch z) (fun _ _ z => nomatch z) (fun _ z => nomatch z) ⟨gs', rr.mono k (List.prefix_refl _), nd, hl, upd_same⟩) (rd _ k) k
theorem kv_drop {kvs : List (D × D)} {gs : List (Key × V)} {k : D} {q : Key} (r : RelKV w H mu kvs gs) (rk : RelK k q) : RelKV w H mu (ddrop kvs k) (dropK gs q) := by
  induction r with
  | nil => exact .nil
  | cons a b c ih =>
    rename_i k' d q' v fs gs
    unfold ddrop dropK at ih ⊢
    by_cases e : k' = k
    · subst e
      have : q' = q := a.fn rk
      subst this
      simp only [List.filter_cons, ne_eq, not_true, decide_false, Bool.false_eq_true, if_false]
      exact ih
    · have : ¬ q' = q := fun z => e (a.inj (z ▸ rk))
      simp only [List.filter_cons, ne_eq, e, this, not_false_eq_true, decide_true, if_true]
      exact .cons a b ih
theorem kv_any {kvs : List (D × D)} {gs : List (Key × V)} {k : D} {q : Key} (r : RelKV w H mu kvs gs) (rk : RelK k q) : (kvs.any fun kv => decide (kv.1 = k)) = (gs.any fun kv => decide (kv.1 = q)) := by
  induction r with
  | nil => rfl
  | cons a b c ih =>
    rename_i k' d q' v fs gs
    rw [List.any_cons, List.any_cons, ih]
    by_cases e : k' = k
    · subst e
      have : q' = q := a.fn rk
      simp [this]
    · have : ¬ q' = q := fun z => e (a.inj (z ▸ rk))
      simp [e, this]
theorem kv_map {kvs : List (D × D)} {gs : List (Key × V)} {k d : D} {q : Key} {v : V} (r : RelKV w H mu kvs gs) (rk : RelK k q) (rd : RelD w H mu d v) : RelKV w H mu (kvs.map fun kv => if kv.1 = k then (kv.1, d) else kv) (gs.map fun kv => if kv.1 = q then (kv.1, v) else kv) := by
  induction r with
  | nil => exact .nil
  | cons a b c ih =>
    rename_i k' d' q' v' fs gs
    rw [List.map_cons, List.map_cons]
    by_cases e : k' = k
    · subst e
      have : q' = q := a.fn rk
      subst this
      simp only [if_true]
      exact .cons a rd ih
    · have : ¬ q' = q := fun z => e (a.inj (z ▸ rk))
      simp only [e, this, if_false]
      exact .cons a b ih
theorem kv_app {kvs : List (D × D)} {gs : List (Key × V)} {k d : D} {q : Key} {v : V} (r : RelKV w H mu kvs gs) (rk : RelK k q) (rd : RelD w H mu d v) : RelKV w H mu (kvs ++ [(k, d)]) (gs ++ [(q, v)]) := by
  induction r with
  | nil => exact .cons rk rd .nil
  | cons a b c ih => exact .cons a b ih
theorem kv_put {kvs : List (D × D)} {gs : List (Key × V)} {k d : D} {q : Key} {v : V} (r : RelKV w H mu kvs gs) (rk : RelK k q) (rd : RelD w H mu d v) : RelKV w H mu (dput kvs k d) (putK gs q v) := by
  unfold dput putK
  rw [kv_any r rk]
  split
  · exact kv_map r rk rd
  · exact kv_app r rk rd
theorem nd_put {gs : List (Key × V)} {q : Key} {v : V} (n : (gs.map (·.1)).Nodup) : ((putK gs q v).map (·.1)).Nodup := by
  unfold putK
  split
  · rw [List.map_map]
    have e : ((fun kv : Key × V => kv.1) ∘ fun kv => if kv.1 = q then (kv.1, v) else kv) = fun kv : Key × V => kv.1 := by
      funext kv
      simp only [Function.comp]
      split <;> rfl
    rw [e]; exact n
  · rename_i h
    rw [List.map_append]
    refine List.nodup_append.mpr ⟨n, by simp, fun a ha b hb => ?_⟩
    have eb : b = q := by simpa using hb
    subst eb
    intro e
    subst e
    obtain ⟨p, hp, rfl⟩ := List.mem_map.mp ha
    exact h (List.any_eq_true.mpr ⟨p, hp, by simp⟩)
theorem nd_drop {gs : List (Key × V)} {q : Key} (n : (gs.map (·.1)).Nodup) : ((dropK gs q).map (·.1)).Nodup := n.sublist (List.Sublist.map _ List.filter_sublist)
theorem len_put {kvs : List (D × D)} {k d : D} : (dput kvs k d).length ≤ kvs.length + 1 := by
  unfold dput
  split <;> simp
theorem len_drop {kvs : List (D × D)} {k : D} : (ddrop kvs k).length ≤ kvs.length := List.length_filter_le _ _
end
abbrev rGetK (K : PySem.W.Frag) : V → List V → Hp → VK → Prop := fun x xs H Q => (∃ a y o, x = .ref a ∧ xs = [y] ∧ DGet H a y o ∧ Q (o.getD .non) H) ∨ (∃ a y z o, x = .ref a ∧ xs = [y, z] ∧ DGet H a y o ∧ Q (o.getD z) H)
abbrev rPopK : V → List V → Hp → VK → Prop := fun x xs H Q => (∃ a kvs k v more, x = .ref a ∧ xs = kV k :: more ∧ (more = [] ∨ ∃ z, more = [z]) ∧ H a = some (.dK kvs) ∧ valV kvs k = some v ∧ Q v (upd H a (.dK (dropK kvs k)))) ∨
  (∃ a kvs k z, x = .ref a ∧ xs = [kV k, z] ∧ H a = some (.dK kvs) ∧ valV kvs k = none ∧ Q z H)
section
variable {w : Wd} {X : Cx}
theorem mt_getK {K : PySem.W.Frag} (hu : X.A.units + 1 < cLine) : MtR X "dict.get" (rGetK K) := by
  intro pins s σ H x xs v us Q I rx rxs h
  rcases h with ⟨a, y, o, rfl, rfl, g, q⟩ | ⟨a, y, z, o, rfl, rfl, g, q⟩
  · obtain ⟨u, rfl, ru⟩ := vals1 rxs
    cases rx
    exact d_get1 hu I g ru fun w' s' I' r' => ⟨_, H, I', r', q⟩
  · obtain ⟨u, u', rfl, ru, ru'⟩ := vals2 rxs
    cases rx
    exact d_get2 hu I g ru ru' fun w' s' I' r' => ⟨_, H, I', r', q⟩
theorem mt_popK : MtR X "dict.pop" rPopK := by
  intro pins s σ H x xs v us Q I rx rxs h
  rcases h with ⟨a, kvs, k, u, more, rfl, rfl, hmore, ha, e, q⟩ | ⟨a, kvs, k, z, rfl, rfl, ha, e, q⟩
  · cases rx
    rcases hmore with rfl | ⟨z, rfl⟩
    · obtain ⟨u1, rfl, ru⟩ := vals1 rxs
      exact d_pop I ha ru e (.inl rfl) fun w' s' I' r' => ⟨u, _, I', r', q⟩
    · obtain ⟨u1, u2, rfl, ru, ru'⟩ := vals2 rxs
      exact d_pop I ha ru e (.inr ⟨u2, rfl⟩) fun w' s' I' r' => ⟨u, _, I', r', q⟩
  · cases rx
    obtain ⟨u1, u2, rfl, ru, ru'⟩ := vals2 rxs
    exact d_popD I ha ru e fun s' I' => ⟨z, H, I', ru', q⟩
theorem rel_getD {H : Hp} {mu : List Addr} {kvs : List (D × D)} {gs : List (Key × V)} {k d : D} {q : Key} {v : V} (r : RelKV w H mu kvs gs) (rk : RelK k q) (rd : RelD w H mu d v) : RelD w H mu ((dget kvs k).getD d) ((valV gs q).getD v) := by
  have g := r.get rk
  cases e : dget kvs k with
  | none => rw [e] at g; rw [g]; exact rd
  | some d' => rw [e] at g; obtain ⟨v', g1, g2⟩ := g; rw [g1]; exact g2
theorem ml_getK {G : Lang} {K : PySem.W.Frag} : MtL w (fun d ds S => match d with
    | .ref n => match S[n]? with
      | some (.dic _ _) => dicM mGet n ds S
      | _ => .stuck
    | _ => .stuck) (rGetK K) := by
  intro W σ H mu S d ds v vs Q rs rd rds h
  cases rd <;> try (exact h.elim)
  rename_i n a hm
  dsimp only at h
  split at h
  · rename_i lk kvs e
    obtain ⟨a', gs, ea, _, rkv, nd, hl, rdd, _⟩ := rs.dic (.ref hm) e
    cases ea
    unfold dicM at h
    rw [e] at h
    dsimp only at h
    rw [if_pos rfl] at h
    split at h
    · split at h
      · rename_i k hk
        obtain ⟨u, rfl, ru⟩ := rel1 rds
        obtain ⟨q, rk, rfl⟩ := RelK.of ru hk
        exact .inl ⟨a, _, _, rfl, rfl, .inl ⟨gs, q, rdd, rfl, rfl⟩, Post.ok (Rel := RelD w) h rs (rel_getD rkv rk .non)⟩
      · exact h.elim
    · split at h
      · rename_i k d hk
        obtain ⟨u, u', rfl, ru, ru'⟩ := rel2 rds
        obtain ⟨q, rk, rfl⟩ := RelK.of ru hk
        exact .inr ⟨a, _, _, _, rfl, rfl, .inl ⟨gs, q, rdd, rfl, rfl⟩, Post.ok (Rel := RelD w) h rs (rel_getD rkv rk ru')⟩
      · exact h.elim
    · exact h.elim
  · exact h.elim
theorem ml_popK {G : Lang} : MtL w (fun d ds S => match d with
    | .ref n => match S[n]? with
      | some (.dic _ _) => dicM mPop n ds S
      | _ => .stuck
    | _ => .stuck) rPopK := by
  intro W σ H mu S d ds v vs Q rs rd rds h
  cases rd <;> try (exact h.elim)
  rename_i n a hm
  dsimp only at h
  split at h
  · rename_i lk kvs e
    obtain ⟨a', gs, ea, _, rkv, nd, hl, rdd, hfree⟩ := rs.dic (.ref hm) e
    cases ea
    unfold dicM at h
    rw [e] at h
    dsimp only at h
    rw [if_neg (by decide)] at h
    split at h
    · rename_i hlk
      have ha := hfree hlk.2
      have done : ∀ {k d : D} {q : Key}, RelK k q → dget kvs k = some d → Post w (RelD w) W σ H mu ((putS n (.dic false (ddrop kvs k)) S).bind fun _ S => .ok d S) Q → ∃ v, valV gs q = some v ∧ Q v (upd H a (.dK (dropK gs q))) := fun {k d q} rk e2 h => by
        have g := rkv.get rk
        rw [e2] at g
        obtain ⟨v, g1, g2⟩ := g
        exact ⟨v, g1, post_dput rs hm ha (kv_drop rkv rk) (nd_drop nd) (Nat.le_trans len_drop hl) (fun H' k => g2.mono k (List.prefix_refl _)) h⟩
      split at h
      · split at h
        · rename_i v e2
          split at h
          · rename_i hk
            obtain ⟨u, rfl, ru⟩ := rel1 rds
            obtain ⟨q, rk, rfl⟩ := RelK.of ru hk
            obtain ⟨v, g1, g2⟩ := done rk e2 h
            exact .inl ⟨a, gs, q, v, [], rfl, rfl, .inl rfl, ha, g1, g2⟩
          · exact h.elim
        · exact h.elim
      · split at h
        · rename_i k d hk
          obtain ⟨u, u', rfl, ru, ru'⟩ := rel2 rds
          obtain ⟨q, rk, rfl⟩ := RelK.of ru hk
          split at h
          · rename_i v e2
            obtain ⟨v, g1, g2⟩ := done rk e2 h
            exact .inl ⟨a, gs, q, v, [u'], rfl, rfl, .inr ⟨_, rfl⟩, ha, g1, g2⟩
          · rename_i e2
            have g := rkv.get rk
            rw [e2] at g
            exact .inr ⟨a, gs, q, u', rfl, rfl, ha, g, Post.ok (Rel := RelD w) h rs ru'⟩
        · exact h.elim
      · exact h.elim
    · exact h.elim
  · exact h.elim
end

/-! ### dicts of tuple keys -/
def selR (x : D) (S : Store) : Bool := match x with
  | .ref n => match S[n]? with
    | some (.dit _) => true
    | _ => false
  | _ => false
section
variable {w : Wd} {X : Cx}
def tyR (w : Wd) (x : V) (H : Hp) : Prop := ∃ p rows, x = .ref p ∧ TdAt w H p rows
theorem tyR_is (hP : X.prog = w.P) (hW : X.w = w.wd) (hK : X.K = w.K) (pins : List (Addr × Obj)) (s : Shared) (σ : St) (H : Hp) (x : V) (v : Value) (I : Inv X pins σ H s) (r : RelV x v) (h : tyR w x H) : s.TypeIs v "dict" ∧ ∀ a, v = .ref a → ∃ ob, s.heap.get? a = some ob ∧ ob.dict = none := by
  obtain ⟨p, rows, rfl, t⟩ := h
  cases r
  obtain ⟨xs, rr, hm, _⟩ := t.dict hP hW hK I
  refine ⟨hm.typeIs, fun a e => ?_⟩
  cases e
  obtain ⟨o, es, ep, ho, hc, _⟩ := hm
  exact ⟨o, ho, hc.2.1⟩
theorem selR_is {H : Hp} {mu : List Addr} {S : Store} {d : D} {v : V} (rs : RelS w H mu S) (rd : RelD w H mu d v) (h : selR d S = true) : tyR w v H := by
  unfold selR at h
  split at h
  · split at h
    · rename_i e
      obtain ⟨a, rows, rfl, _, _, t⟩ := rs.dit rd e
      exact ⟨a, rows, rfl, t⟩
    · cases h
  · cases h
abbrev rGetR (w : Wd) : V → List V → Hp → VK → Prop := fun x xs H Q => ∃ a b q rows z, x = .ref a ∧ xs = [.ref b, z] ∧ KeyAt w.K H b q ∧ TdAt w H a rows ∧ Q ((rget rows q).getD z) H
theorem mt_getR (hP : X.prog = w.P) (hW : X.w = w.wd) (hK : X.K = w.K) (hu : X.A.units + 64 < cLine) : MtR X "dict.get" (rGetR w) := by
  intro pins s σ H x xs v us Q I rx rxs h
  obtain ⟨a, b, q, rows, z, rfl, rfl, hk, t, hq⟩ := h
  obtain ⟨u1, u2, rfl, ru, ru'⟩ := vals2 rxs
  cases rx; cases ru
  obtain ⟨xs, rr, hm, _⟩ := t.dict hP hW hK I
  refine getOr_keyed (room8 (kind := fun _ _ => ()) hu) (key_is I (hK ▸ hk)) t.sm ⟨xs, hm, rfl⟩ ?_
  refine ⟨_, H, I.tok _, ?_, hq⟩
  rw [valueAt_pairsH]
  have g := rget_rel q rr
  cases e : rget rows q with
  | none => rw [e] at g; rw [g]; exact ru'
  | some v => rw [e] at g; obtain ⟨p, g1, g2⟩ := g; rw [g1]; exact g2
theorem ml_getR {G : Lang} : MtL w (fun d ds S => match d with
    | .ref n => match S[n]? with
      | some (.dit _) => dicM mGet n ds S
      | _ => .stuck
    | _ => .stuck) (rGetR w) := by
  intro W σ H mu S d ds v vs Q rs rd rds h
  cases rd <;> try (exact h.elim)
  rename_i n a hm
  dsimp only at h
  split at h
  · rename_i kvs e
    obtain ⟨a', rows, ea, _, rr, t⟩ := rs.dit (.ref hm) e
    cases ea
    unfold dicM at h
    rw [e] at h
    dsimp only at h
    rw [if_pos rfl] at h
    split at h
    · split at h
      · rename_i k d hk
        obtain ⟨u, u', rfl, ru, ru'⟩ := rel2 rds
        obtain ⟨q, hq⟩ := isKeyT_nk hk
        obtain ⟨b, rfl⟩ := ru.isRef hq
        refine ⟨a, b, q, rows, u', rfl, rfl, keyAt_of ru hq, t, ?_⟩
        have g := rr.get hq
        refine Post.ok (Rel := RelD w) h rs ?_
        cases e2 : dget kvs k with
        | none => rw [e2] at g; rw [g]; exact ru'
        | some d => rw [e2] at g; obtain ⟨v, g1, g2⟩ := g; rw [g1]; exact g2
      · exact h.elim
    · exact h.elim
  · exact h.elim

/-! ### stores into dicts of tuple keys -/
theorem rr_any {H : Hp} {mu : List Addr} {kvs : List (D × D)} {rows : List Row} {k : D} {q : NestedKey} (r : RelR w H mu kvs rows) (rk : nk k = some q) : (kvs.any fun kv => decide (kv.1 = k)) = (rget rows q).isSome := by
  have g := r.get rk
  have e : (kvs.any fun kv => decide (kv.1 = k)) = (dget kvs k).isSome := by
    unfold dget
    rw [Option.isSome_map, Bool.eq_iff_iff, List.find?_isSome, List.any_eq_true]
  rw [e]
  cases e2 : dget kvs k with
  | none => rw [e2] at g; rw [g]; rfl
  | some d => rw [e2] at g; obtain ⟨v, g1, _⟩ := g; rw [g1]; rfl
/-- the rows behind d[k] = v -/
def rput (rows : List Row) (q : NestedKey) (b : Addr) (v : V) : List Row := if (rget rows q).isSome then rows.map (fun r => if r.1 = q then (r.1, r.2.1, v) else r) else rows ++ [(q, b, v)]
theorem rr_map {H : Hp} {mu : List Addr} {kvs : List (D × D)} {rows : List Row} {k d : D} {q : NestedKey} {v : V} (r : RelR w H mu kvs rows) (rk : nk k = some q) (rd : RelD w H mu d v) : RelR w H mu (kvs.map fun kv => if kv.1 = k then (kv.1, d) else kv) (rows.map fun r => if r.1 = q then (r.1, r.2.1, v) else r) := by
  induction r with
  | nil => exact .nil
  | cons e a b c ih =>
    rename_i k' d' q' b' v' fs gs
    rw [List.map_cons, List.map_cons]
    by_cases e2 : k' = k
    · subst e2
      have : q' = q := Option.some.inj (e.symm.trans rk)
      subst this
      simp only [if_true]
      exact .cons e a rd ih
    · have : ¬ q' = q := fun z => e2 (nk_inj e (by rw [z]; exact rk))
      simp only [e2, this, if_false]
      exact .cons e a b ih
theorem rr_app {H : Hp} {mu : List Addr} {kvs : List (D × D)} {rows : List Row} {k d : D} {q : NestedKey} {b : Addr} {v : V} (r : RelR w H mu kvs rows) (rk : nk k = some q) (rb : RelD w H mu k (.ref b)) (rd : RelD w H mu d v) : RelR w H mu (kvs ++ [(k, d)]) (rows ++ [(q, b, v)]) := by
  induction r with
  | nil => exact .cons rk rb rd .nil
  | cons e a b c ih => exact .cons e a b ih
theorem rr_put {H : Hp} {mu : List Addr} {kvs : List (D × D)} {rows : List Row} {k d : D} {q : NestedKey} {b : Addr} {v : V} (r : RelR w H mu kvs rows) (rk : nk k = some q) (rb : RelD w H mu k (.ref b)) (rd : RelD w H mu d v) : RelR w H mu (dput kvs k d) (rput rows q b v) := by
  unfold dput rput
  rw [rr_any r rk]
  split
  · exact rr_map r rk rd
  · exact rr_app r rk rb rd
theorem nd_rput {rows : List Row} {q : NestedKey} {b : Addr} {v : V} (n : (rows.map (·.1)).Nodup) : ((rput rows q b v).map (·.1)).Nodup := by
  unfold rput
  split
  · rw [List.map_map]
    have e : ((fun kv : Row => kv.1) ∘ fun r => if r.1 = q then (r.1, r.2.1, v) else r) = fun kv : Row => kv.1 := by
      funext kv
      simp only [Function.comp]
      split <;> rfl
    rw [e]; exact n
  · rename_i h
    rw [List.map_append]
    refine List.nodup_append.mpr ⟨n, by simp, fun a ha b hb => ?_⟩
    have eb : b = q := by simpa using hb
    subst eb
    intro e
    subst e
    obtain ⟨p, hp, rfl⟩ := List.mem_map.mp ha
    apply h
    unfold rget
    rw [Option.isSome_map, List.find?_isSome]
    exact ⟨p, hp, by simp⟩
theorem rput_rel {rows : List Row} {xs : List (NestedKey × Addr × Value)} {q : NestedKey} {b : Addr} {v : V} {u : Value} (r : Paired rowRel rows xs) (rv : RelV v u) : Paired rowRel (rput rows q b v) (storedH xs q b u) := by
  have g := rget_rel q r
  unfold rput
  cases e : rget rows q with
  | some v' =>
    rw [e] at g
    obtain ⟨p, g1, _⟩ := g
    rw [storedH_old g1]
    simp only [Option.isSome_some, if_true]
    clear g1 e
    induction r with
    | nil => exact .nil
    | cons a c ih =>
      rw [List.map_cons, List.map_cons]
      refine .cons ?_ ih
      obtain ⟨h1, h2, h3⟩ := a
      unfold putAt
      rw [h1]
      split
      · exact ⟨rfl, h2, rv⟩
      · exact ⟨h1, h2, h3⟩
  | none =>
    rw [e] at g
    rw [storedH_new g]
    simp only [Option.isSome_none, Bool.false_eq_true, if_false]
    clear g e
    induction r with
    | nil => exact .cons ⟨rfl, rfl, rv⟩ .nil
    | cons a c ih => exact .cons a ih
def sTPut (w : Wd) : TSet := fun o i v H Q => ∃ a b q rows, o = .ref a ∧ i = .ref b ∧ KeyAt w.K H b q ∧ TdAt w H a rows ∧ Q (upd H a (tdO w a (rput rows q b v)))
theorem pset_R (hP : X.prog = w.P) (hW : X.w = w.wd) (hK : X.K = w.K) (hu : X.A.units + 64 < cLine) : PSet X (sTPut w) := by
  intro pins s σ H o i v ov iv u Q I ro ri rv h
  obtain ⟨a, b, q, rows, rfl, rfl, hk, t, hQ⟩ := h
  cases ro; cases ri
  obtain ⟨xs, rr, hm, hz⟩ := t.dict hP hW hK I
  refine wpAny_setItem_heap (hsz := hz) (room8 (kind := fun _ _ => ()) hu) (key_is I (hK ▸ hk)) hm fun h' hm' hs => ?_
  obtain ⟨od, es, ep, hod, hc, hd, he, _, _⟩ := hm'
  refine ⟨_, I.write (x := a) (e := a) (o := tdO w a (rput rows q b v)) (t' := s.toks + (nestedKind X.prog X.w).draws q) (by rw [t.ob]; exact True.intro) (.inl rfl) (fun c ob hne e => (hs.2 c hne).trans e) ⟨od, hod⟩ ?_, hQ⟩
  refine ⟨⟨_, rput_rel rr rv, od, es, ep, hod, hc, hd, by rw [← hP, ← hW]; exact he⟩, ⟨od, hod⟩, fun h1 h2 p hh => ?_⟩
  obtain ⟨xs', r', o', es', ep', ho', rest⟩ := p
  exact ⟨xs', r', o', es', ep', hh _ ho', rest⟩
end
end Bs

set_option Elab.async false
set_option linter.all false
set_option maxRecDepth 100000
set_option maxHeartbeats 1000000
/-! Bs11: statements. -/
namespace Bs
open PySem PySem.Spec L2

section
variable (w : Wd) (W : WX) (H : Hp) (mu : List Addr)
def PostS (r : SR) (E : Ends) : Prop :=
  match r with
  | .nx rho S => ∀ σ' H' mu', mu <+: mu' → RelS w H' mu' S → RelE w H' mu' rho σ' → Keep H H' → E.nx σ' H'
  | .bk rho S => ∀ σ' H' mu', mu <+: mu' → RelS w H' mu' S → RelE w H' mu' rho σ' → Keep H H' → E.bk σ' H'
  | .ct rho S => ∀ σ' H' mu', mu <+: mu' → RelS w H' mu' S → RelE w H' mu' rho σ' → Keep H H' → E.ct σ' H'
  | .rt d S => ∀ v H' mu', mu <+: mu' → RelS w H' mu' S → RelD w H' mu' d v → Keep H H' → E.rt v H'
  | .ex c fs rho S => ∀ x σ' H' mu', mu <+: mu' → RelS w H' mu' S → RelE w H' mu' rho σ' → RelX w H' mu' fs x → Keep H H' → W (.ref (w.cl c)) x σ' H'
  | .stuck => False
end
section
variable {w : Wd} {W : WX} {H H1 : Hp} {mu mu1 : List Addr} {α β : Type} {Rel : Hp → List Addr → α → β → Prop}
theorem PostS.rebase {r : SR} {E : Ends} (p : mu <+: mu1) (k : Keep H H1) (h : PostS w W H mu r E) : PostS w W H1 mu1 r E := by
  cases r with
  | nx rho S => exact fun σ' H' mu' p' rs re k' => h σ' H' mu' (p.trans p') rs re (k.trans k')
  | bk rho S => exact fun σ' H' mu' p' rs re k' => h σ' H' mu' (p.trans p') rs re (k.trans k')
  | ct rho S => exact fun σ' H' mu' p' rs re k' => h σ' H' mu' (p.trans p') rs re (k.trans k')
  | rt d S => exact fun v H' mu' p' rs re k' => h v H' mu' (p.trans p') rs re (k.trans k')
  | ex c fs rho S => exact fun x σ' H' mu' p' rs re rx k' => h x σ' H' mu' (p.trans p') rs re rx (k.trans k')
  | stuck => exact h
theorem sr1_post {r : Res α} {f : α → Store → SR} {rho : En} {σ : St} {E : Ends} (re : RelE w H mu rho σ) (h : PostS w W H mu (sr1 rho r f) E) :
    Post w Rel W σ H mu r fun b H1 => ∃ a S1 mu1, mu <+: mu1 ∧ RelS w H1 mu1 S1 ∧ Rel H1 mu1 a b ∧ Keep H H1 ∧ RelE w H1 mu1 rho σ ∧ PostS w W H1 mu1 (f a S1) E := by
  cases r with
  | ok a S => exact fun b H' mu' p rs ra k => ⟨a, S, mu', p, rs, ra, k, re.mono k p, PostS.rebase p k h⟩
  | exc c fs S => exact fun x H' mu' p rs rx k => h x σ H' mu' p rs (re.mono k p) rx k
  | stuck => exact h
end
def liftS (w : Wd) (W : WX) (m : Mz) : TS := fun E σ H => ∃ rho S mu, RelE w H mu rho σ ∧ RelS w H mu S ∧ PostS w W H mu (m rho S) E
theorem PS.imp {X : Cx} {st : Stmt} {t t' : TS} (h : PS X st t) (q : ∀ E σ H, t' E σ H → t E σ H) : PS X st t' := ⟨fun pins s σ H E I z => h.run pins s σ H E I (q _ _ _ z)⟩
theorem PSs.imp {X : Cx} {st : List Stmt} {t t' : TS} (h : PSs X st t) (q : ∀ E σ H, t' E σ H → t E σ H) : PSs X st t' := ⟨fun pins s σ H E I z => h.run pins s σ H E I (q _ _ _ z)⟩

section
variable {w : Wd} {X : Cx} {W : WX} {a b c e o i : Expr} {ma mb mc mo mi : Mx D} {pos pos' tpos : Pos} {st : Stmt} {rest : List Stmt} {m n : Mz}

theorem sr1_lift {α β : Type} {Rel : Hp → List Addr → α → β → Prop} {m : Mx α} {f : En → α → Store → SR} {E : Ends} {σ : St} {H : Hp} (h : liftS w W (fun rho S => sr1 rho (m rho S) (f rho)) E σ H) :
    liftG w Rel W m σ H fun b H1 => ∃ rho a S1 mu1, RelS w H1 mu1 S1 ∧ Rel H1 mu1 a b ∧ RelE w H1 mu1 rho σ ∧ PostS w W H1 mu1 (f rho a S1) E := by
  obtain ⟨rho, S, mu, re, rs, z⟩ := h
  exact ⟨rho, S, mu, re, rs, (sr1_post (Rel := Rel) re z).imp fun v H1 ⟨a, S1, mu1, p, rs1, ra, k, re1, q⟩ => ⟨rho, a, S1, mu1, rs1, ra, re1, q⟩⟩
theorem PostS.nx {rho : En} {σ : St} {H : Hp} {mu : List Addr} {S : Store} {E : Ends} (h : PostS w W H mu (.nx rho S) E) (rs : RelS w H mu S) (re : RelE w H mu rho σ) : E.nx σ H := h _ _ _ (List.prefix_refl _) rs re .refl

/-! ### blocks -/
theorem ss_nil : PSs X [] (liftS w W SR.nx) := PSs.imp pss_nil fun E σ H ⟨rho, S, mu, re, rs, z⟩ => PostS.nx z rs re
theorem seq_post {rho : En} {σ : St} {H : Hp} {mu : List Addr} {S : Store} {E : Ends} {r : SR} (h : PostS w W H mu (r.seq n) E) : PostS w W H mu r { E with nx := liftS w W n E } := by
  cases r with
  | nx rho S => exact fun σ' H' mu' p rs re k => ⟨rho, S, mu', re, rs, PostS.rebase p k h⟩
  | _ => exact h
theorem ss_cons (h1 : PS X st (liftS w W m)) (h2 : PSs X rest (liftS w W n)) : PSs X (st :: rest) (liftS w W fun rho S => (m rho S).seq n) :=
  PSs.imp (pss_cons h1 h2) fun E σ H ⟨rho, S, mu, re, rs, z⟩ => ⟨rho, S, mu, re, rs, seq_post (rho := rho) (σ := σ) (S := S) z⟩

/-! ### small statements -/
theorem ss_pass : PS X (.Pass pos) (liftS w W SR.nx) := PS.imp ps_pass fun E σ H ⟨rho, S, mu, re, rs, z⟩ => PostS.nx z rs re
theorem ss_brk : PS X (.Break pos) (liftS w W SR.bk) := PS.imp ps_break fun E σ H ⟨rho, S, mu, re, rs, z⟩ => z _ _ _ (List.prefix_refl _) rs re .refl
theorem ss_cont : PS X (.Continue pos) (liftS w W SR.ct) := PS.imp ps_continue fun E σ H ⟨rho, S, mu, re, rs, z⟩ => z _ _ _ (List.prefix_refl _) rs re .refl
/-- no comprehension -/
def notComp : Expr → Bool
  | .ListComp .. => false
  | .SetComp .. => false
  | .DictComp .. => false
  | _ => true
theorem sw_not {t : Option Expr} {l : Nat} {env : Env} (h : notComp e = true) : swapsWith e t l env = pure false := by
  cases e <;> first | rfl | cases h
theorem ss_expr (he : PE X e (liftE w W ma)) (hc : notComp e = true) : PS X (.Expr e pos) (liftS w W fun rho S => sr1 rho (ma rho S) fun _ S => .nx rho S) :=
  PS.imp (ps_expr he (sw_not hc)) fun E σ H h => liftG.imp (sr1_lift (Rel := RelD w) (f := fun rho _ S => .nx rho S) h) fun v H1 ⟨rho, a, S1, mu1, rs, ra, re, q⟩ => PostS.nx q rs re
theorem ss_ret (he : PE X e (liftE w W ma)) : PS X (.Return (some e) pos) (liftS w W fun rho S => sr1 rho (ma rho S) fun x S => .rt x S) :=
  PS.imp (ps_ret he) fun E σ H h => liftG.imp (sr1_lift (Rel := RelD w) (f := fun rho x S => .rt x S) h) fun v H1 ⟨rho, a, S1, mu1, rs, ra, re, q⟩ => q _ _ _ (List.prefix_refl _) rs ra .refl
theorem ss_retN : PS X (.Return none pos) (liftS w W fun _ S => .rt .non S) :=
  PS.imp ps_retN fun E σ H ⟨rho, S, mu, re, rs, z⟩ => z _ _ _ (List.prefix_refl _) rs .non .refl
theorem ss_if {mt : Mx Bool} {p q : List Stmt} (hc : PT X c (liftT w W mt)) (ha : PSs X p (liftS w W m)) (hb : PSs X q (liftS w W n)) :
    PS X (.If c p q pos) (liftS w W fun rho S => sr1 rho (mt rho S) fun t S => if t = true then m rho S else n rho S) := by
  refine PS.imp (ps_if hc ha hb) fun E σ H h => liftG.imp (sr1_lift (Rel := relB) (f := fun rho t S => if t = true then m rho S else n rho S) h) fun v H1 ⟨rho, a, S1, mu1, rs, ra, re, q⟩ => ?_
  obtain rfl : a = v := ra
  cases a with
  | true => exact ⟨rho, S1, mu1, re, rs, q⟩
  | false => exact ⟨rho, S1, mu1, re, rs, q⟩

/-! ### targets -/
def tgIs : Tg → List Nat
  | .name i => [i]
  | .tup is => is
/-- a target's rule serves the target over data -/
def TgR (w : Wd) (g : TG) (tg : Tg) : Prop :=
  ∀ (H : Hp) (mu : List Addr) (d : D) (v : V) (rho r1 : En) (σ : St) (Q : St → Hp → Prop), RelE w H mu rho σ → RelD w H mu d v → tgD tg d rho = some r1 →
    (∀ σ', RelE w H mu r1 σ' → (∀ j, j ∉ tgIs tg → σ'[j]? = σ[j]?) → σ'.length = σ.length → Q σ' H) → g v σ H Q
theorem tg_name {i : Nat} : TgR w (gName i) (.name i) := by
  intro H mu d v rho r1 σ Q re rd e h
  cases e
  refine h _ (re.set rd) (fun j hj => ?_) (by simp)
  exact List.getElem?_set_ne (fun z => hj (by subst z; simp [tgIs]))
def gNames : List Nat → TGs
  | [] => gNil
  | i :: r => gCons (gName i) (gNames r)
theorem tg_names {H : Hp} {mu : List Addr} : ∀ {is : List Nat} {ds : List D} {vs : List V} {rho : En} {σ : St} {Q : St → Hp → Prop}, RelE w H mu rho σ → RelDs w H mu ds vs → ds.length = is.length →
    (∀ σ', RelE w H mu ((is.zip ds).foldl (fun r p => r.set p.1 (some p.2)) rho) σ' → (∀ j, j ∉ is → σ'[j]? = σ[j]?) → σ'.length = σ.length → Q σ' H) → gNames is vs σ H Q
  | [], [], _, rho, σ, Q, re, .nil, _, h => ⟨rfl, h _ re (fun _ _ => rfl) rfl⟩
  | i :: is, d :: ds, _, rho, σ, Q, re, .cons ra rr, hl, h => by
    refine ⟨_, _, rfl, ?_⟩
    show gNames is _ (σ.set i (some _)) H Q
    refine tg_names (re.set ra) rr (by simpa using hl) fun σ' r1 h1 h2 => h σ' r1 (fun j hj => ?_) (by rw [h2]; simp)
    rw [h1 j (fun z => hj (by simp [z]))]
    exact List.getElem?_set_ne (fun z => hj (by simp [z]))
theorem tg_tup {K : PySem.W.Frag} {is : List Nat} (hK : K = w.K) : TgR w (gTup K is.length (gNames is)) (.tup is) := by
  intro H mu d v rho r1 σ Q re rd e h
  subst hK
  cases rd <;> try (cases e)
  rename_i a vs ds t r l
  unfold tgD at e
  dsimp only at e
  split at e
  · rename_i hl
    cases e
    exact ⟨a, vs, rfl, t.sq, by rw [← r.length]; exact hl, tg_names re r hl h⟩
  · cases e
theorem ss_asg {tg : Expr} {g : TG} {T : Tg} (he : PE X e (liftE w W ma)) (hg : PG X tg g) (hT : TgR w g T) (hs : swapsWithSole [tg] e pos.line X.env = pure false) (hw : swappedStores [tg] e X.env = pure none) (h1 : (assignEach [tg] X.env).map (·.2) = [assign tg X.env]) :
    PS X (.Assign [tg] e pos) (liftS w W fun rho S => sr1 rho (ma rho S) fun x S => optS (tgD T x rho) S) := by
  refine PS.imp (ps_asg he hg hs hw h1) fun E σ H h => liftG.imp (sr1_lift (Rel := RelD w) (f := fun rho x S => optS (tgD T x rho) S) h) fun v H1 ⟨rho, a, S1, mu1, rs, ra, re, q⟩ => ?_
  cases e : tgD T a rho with
  | none => rw [e] at q; exact q.elim
  | some r1 =>
    rw [e] at q
    exact hT H1 mu1 a v rho r1 σ _ re ra e fun σ' re' _ _ => PostS.nx q rs re'

/-! ### several names at once, from the right -/
theorem ss_par2 {i j : Nat} {x y : Str} {px py pt : Pos} {kt k2 pt2} (hc : X.calm = true) (hN : X.N.Nodup) (hi : X.N[i]? = some x) (hj : X.N[j]? = some y) (hij : i ≠ j)
    (hx : X.env.scope.names.lookup x = some .local) (hy : X.env.scope.names.lookup y = some .local) (ha : PE X a (liftE w W ma)) (hb : PE X b (liftE w W mb)) (na : notStar a = true) (nb : notStar b = true)
    (hw : swappedStores [.Tuple [.Name x px, .Name y py] kt pt] (.Tuple [a, b] k2 pt2) X.env = pure (some [x, y])) :
    PS X (.Assign [.Tuple [.Name x px, .Name y py] kt pt] (.Tuple [a, b] k2 pt2) pos) (liftS w W fun rho S => sr1 rho (ma rho S) fun x S => sr1 rho (mb rho S) fun y S => .nx ((rho.set i (some x)).set j (some y)) S) := by
  refine PS.imp (ps_par hc hN hi hj hij hx hy (sa_cons ha (sa_cons hb sa_nil (star_cons nb)) (star_cons na)) hw) fun E σ H ⟨rho, S, mu, re, rs, z⟩ => ?_
  refine ⟨rho, S, mu, re, rs, ?_⟩
  dsimp only at z
  show Post w (RelDs w) W σ H mu ((ma rho S).bind fun x S1 => ((mb rho S1).bind fun x S1 => Res.ok [x] S1).bind fun y S2 => .ok (x :: y) S2) _
  cases e1 : ma rho S with
  | ok d1 S1 =>
    rw [e1] at z
    simp only [sr1_ok] at z
    simp only [bind_ok]
    cases e2 : mb rho S1 with
    | ok d2 S2 =>
      rw [e2] at z
      simp only [sr1_ok] at z
      simp only [bind_ok]
      intro vs H' mu' p rs' rd k
      cases rd with
      | cons r1 rr =>
        cases rr with
        | cons r2 rr =>
          cases rr
          exact ⟨_, _, rfl, z _ _ _ p rs' (((re.mono k p).set r1).set r2) k⟩
    | exc c fs S2 =>
      rw [e2] at z
      exact fun x H' mu' p rs' rx k => z x σ H' mu' p rs' (re.mono k p) rx k
    | stuck => rw [e2] at z; exact z
  | exc c fs S1 =>
    rw [e1] at z
    exact fun x H' mu' p rs' rx k => z x σ H' mu' p rs' (re.mono k p) rx k
  | stuck => rw [e1] at z; exact z
theorem ss_par3 {i j l : Nat} {x y u : Str} {px py pz pt : Pos} {kt k2 pt2} (hc : X.calm = true) (hN : X.N.Nodup) (hi : X.N[i]? = some x) (hj : X.N[j]? = some y) (hl : X.N[l]? = some u) (hij : i ≠ j) (hil : i ≠ l) (hjl : j ≠ l)
    (hx : X.env.scope.names.lookup x = some .local) (hy : X.env.scope.names.lookup y = some .local) (hz : X.env.scope.names.lookup u = some .local) (ha : PE X a (liftE w W ma)) (hb : PE X b (liftE w W mb)) (hc' : PE X c (liftE w W mc)) (na : notStar a = true) (nb : notStar b = true) (nc : notStar c = true)
    (hw : swappedStores [.Tuple [.Name x px, .Name y py, .Name u pz] kt pt] (.Tuple [a, b, c] k2 pt2) X.env = pure (some [x, y, u])) :
    PS X (.Assign [.Tuple [.Name x px, .Name y py, .Name u pz] kt pt] (.Tuple [a, b, c] k2 pt2) pos) (liftS w W fun rho S => sr1 rho (ma rho S) fun x S => sr1 rho (mb rho S) fun y S => sr1 rho (mc rho S) fun z S => .nx (((rho.set i (some x)).set j (some y)).set l (some z)) S) := by
  refine PS.imp (ps_par3 hc hN hi hj hl hij hil hjl hx hy hz (sa_cons ha (sa_cons hb (sa_cons hc' sa_nil (star_cons nc)) (star_cons nb)) (star_cons na)) hw) fun E σ H ⟨rho, S, mu, re, rs, z⟩ => ?_
  refine ⟨rho, S, mu, re, rs, ?_⟩
  dsimp only at z
  show Post w (RelDs w) W σ H mu ((ma rho S).bind fun x S1 => ((mb rho S1).bind fun x S1 => ((mc rho S1).bind fun x S1 => Res.ok [x] S1).bind fun y S2 => .ok (x :: y) S2).bind fun y S2 => .ok (x :: y) S2) _
  cases e1 : ma rho S with
  | ok d1 S1 =>
    rw [e1] at z
    simp only [sr1_ok] at z
    simp only [bind_ok]
    cases e2 : mb rho S1 with
    | ok d2 S2 =>
      rw [e2] at z
      simp only [sr1_ok] at z
      simp only [bind_ok]
      cases e3 : mc rho S2 with
      | ok d3 S3 =>
        rw [e3] at z
        simp only [sr1_ok] at z
        simp only [bind_ok]
        intro vs H' mu' p rs' rd k
        cases rd with
        | cons r1 rr =>
          cases rr with
          | cons r2 rr =>
            cases rr with
            | cons r3 rr =>
              cases rr
              exact ⟨_, _, _, rfl, z _ _ _ p rs' ((((re.mono k p).set r1).set r2).set r3) k⟩
      | exc c fs S2 =>
        rw [e3] at z
        exact fun x H' mu' p rs' rx k => z x σ H' mu' p rs' (re.mono k p) rx k
      | stuck => rw [e3] at z; exact z
    | exc c fs S2 =>
      rw [e2] at z
      exact fun x H' mu' p rs' rx k => z x σ H' mu' p rs' (re.mono k p) rx k
    | stuck => rw [e2] at z; exact z
  | exc c fs S1 =>
    rw [e1] at z
    exact fun x H' mu' p rs' rx k => z x σ H' mu' p rs' (re.mono k p) rx k
  | stuck => rw [e1] at z; exact z

/-! ### o[i] = e -/
theorem PSet.or {t u : TSet} (a : PSet X t) (b : PSet X u) : PSet X fun o i v H Q => t o i v H Q ∨ u o i v H Q :=
  fun pins s σ H o i v ov iv uv Q I r1 r2 r3 h => h.elim (fun h => a pins s σ H o i v ov iv uv Q I r1 r2 r3 h) fun h => b pins s σ H o i v ov iv uv Q I r1 r2 r3 h
/-- a store by values serves a store over data -/
def SetL (w : Wd) (t : TSet) : Prop := ∀ (W : WX) (σ : St) (H : Hp) (mu : List Addr) (S : Store) (x k d : D) (o i v : V) (Q : Hp → Prop), RelS w H mu S → RelD w H mu x o → RelD w H mu k i → RelD w H mu d v →
  Post w (fun _ _ (_ : Unit) (_ : Unit) => True) W σ H mu (setD x k d S) (fun _ H' => Q H') → t o i v H Q
theorem setl : SetL w fun o i v H Q => rSetL o i v H Q ∨ (rSetD o i v H Q ∨ sTPut w o i v H Q) := by
  intro W σ H mu S x k d o i v Q rs rx rk rd h
  cases rx <;> try (exact h.elim)
  rename_i n a hm
  unfold setD at h
  dsimp only at h
  split at h
  · rename_i xs e
    cases rk <;> try (exact h.elim)
    rename_i ii
    dsimp only at h
    split at h
    · rename_i j ej
      obtain ⟨vs, rr, ha, l⟩ := rs.obj _ _ _ e hm
      refine .inl ⟨a, vs, ii, j, rfl, rfl, ha, by rw [← rr.length]; exact ej, ?_⟩
      have kp : Keep H (upd H a (.lst (vs.set j v))) := Keep.put ha (fun _ z => nomatch z) fun _ _ z => nomatch z
      exact h () _ mu (List.prefix_refl _) (rs.put hm ha (fun _ z => nomatch z) (fun _ _ z => nomatch z) (fun _ z => nomatch z) ⟨_, (rr.set rd j).mono kp (List.prefix_refl _), upd_same, by rw [List.length_set]; exact l⟩) trivial kp
    · exact h.elim
  · rename_i kvs e
    split at h
    · rename_i hk
      obtain ⟨a', gs, ea, hm', rkv, nd, hl, rdd, hd⟩ := rs.dic (.ref hm) e
      cases ea
      obtain ⟨q, rq, rfl⟩ := RelK.of rk hk.1
      refine .inr (.inl ⟨a, _, rfl, DPut.k (hd rfl) (by rw [← relkv_len rkv]; exact hk.2), ?_⟩)
      have kp : Keep H (upd H a (.dK (putK gs q v))) := Keep.put (hd rfl) (fun _ z => nomatch z) fun _ _ z => nomatch z
      refine h () _ mu (List.prefix_refl _) (rs.put hm (hd rfl) (fun _ z => nomatch z) (fun _ _ z => nomatch z) (fun _ z => nomatch z) ?_) trivial kp
      exact ⟨_, (kv_put rkv rq rd).mono kp (List.prefix_refl _), nd_put nd, Nat.le_trans len_put hk.2, upd_same⟩
    · exact h.elim
  · rename_i kvs e
    split at h
    · rename_i hk
      obtain ⟨a', rows, ea, hm', rr, t⟩ := rs.dit (.ref hm) e
      cases ea
      obtain ⟨q, hq⟩ := isKeyT_nk hk.1
      obtain ⟨b, rfl⟩ := rk.isRef hq
      refine .inr (.inr ⟨a, b, q, rows, rfl, rfl, keyAt_of rk hq, t, ?_⟩)
      have ho := t.ob
      have kp : Keep H (upd H a (tdO w a (rput rows q b v))) := Keep.put ho (fun _ z => nomatch z) fun _ _ z => nomatch z
      refine h () _ mu (List.prefix_refl _) (rs.put hm ho (fun _ z => nomatch z) (fun _ _ z => nomatch z) (fun _ z => nomatch z) ?_) trivial kp
      exact ⟨_, (rr_put rr hq rk rd).mono kp (List.prefix_refl _), nd_rput t.nd, Nat.le_trans len_put hk.2, t.sm, upd_same⟩
    · exact h.elim
  · exact h.elim
/-- no slice -/
def notSl : Expr → Bool
  | .Slice .. => false
  | _ => true
theorem assign_sub {v : Value} {env : PySem.Env} (h : notSl i = true) : assign (.Subscript o i pos) env v = (do
      let ov ← holding [v] (eval o env)
      let iv ← holding [v, ov] (eval i env)
      standAt pos
      holding [v, ov, iv] (setItem ov iv v)
      release [v, ov, iv] []) := by
  cases i <;> first | rfl | cases h
theorem sw_sub {t u : Expr} {l : Nat} {env : PySem.Env} {p : Pos} : swapsWithSole [.Subscript t u p] e l env = pure false := by
  show swapsWith e (some (.Subscript t u p)) l env = pure false
  cases e <;> rfl
theorem ss_setS (hP : X.prog = w.P) (hW : X.w = w.wd) (hK : X.K = w.K) (hu : X.A.units + 64 < cLine) (ho : PE X o (liftE w W mo)) (hi : PE X i (liftE w W mi)) (hv : PE X e (liftE w W ma)) (hs : notSl i = true) :
    PS X (.Assign [.Subscript o i tpos] e pos) (liftS w W fun rho S => sr1 rho (ma rho S) fun v S => sr1 rho (mo rho S) fun x S => sr1 rho (mi rho S) fun k S => sr1 rho (setD x k v S) fun _ S => .nx rho S) := by
  refine PS.imp (ps_asg hv (pg_sub ho hi (PSet.or set_list (PSet.or (set_dict (by omega)) (pset_R hP hW hK hu))) fun v => assign_sub hs) sw_sub (by cases e <;> rfl) rfl) fun E σ H h => ?_
  refine liftG.imp (sr1_lift (Rel := RelD w) (f := fun rho v S => sr1 rho (mo rho S) fun x S => sr1 rho (mi rho S) fun k S => sr1 rho (setD x k v S) fun _ S => .nx rho S) h) fun v H1 ⟨rho, d, S1, mu1, rs, rd, re, q⟩ => ?_
  refine ⟨rho, S1, mu1, re, rs, (sr1_post (Rel := RelD w) re q).imp fun ov H2 ⟨x, S2, mu2, p2, rs2, rx, k2, re2, q⟩ => ?_⟩
  refine ⟨rho, S2, mu2, re2, rs2, (sr1_post (Rel := RelD w) re2 q).imp fun iv H3 ⟨k, S3, mu3, p3, rs3, rk, k3, re3, q⟩ => ?_⟩
  exact setl W σ H3 mu3 S3 x k d ov iv v _ rs3 (rx.mono k3 p3) rk (rd.mono (k2.trans k3) (p2.trans p3)) ((sr1_post (Rel := fun _ _ _ _ => True) re3 q).imp fun _ H4 ⟨_, S4, mu4, p4, rs4, _, k4, re4, q⟩ => PostS.nx q rs4 re4)

/-! ### del o[i] -/
theorem ss_del (ho : PE X o (liftE w W mo)) (hi : PE X i (liftE w W mi)) :
    PS X (.Delete [.Subscript o i tpos] pos) (liftS w W fun rho S => sr1 rho (mo rho S) fun x S => sr1 rho (mi rho S) fun k S => sr1 rho (delD x k S) fun _ S => .nx rho S) := by
  refine PS.imp (ps_ddel ho hi) fun E σ H h => ?_
  refine liftG.imp (sr1_lift (Rel := RelD w) (f := fun rho x S => sr1 rho (mi rho S) fun k S => sr1 rho (delD x k S) fun _ S => .nx rho S) h) fun ov H1 ⟨rho, x, S1, mu1, rs, rx, re, q⟩ => ?_
  refine ⟨rho, S1, mu1, re, rs, (sr1_post (Rel := RelD w) re q).imp fun iv H2 ⟨k, S2, mu2, p2, rs2, rk, k2, re2, q⟩ => ?_⟩
  have q := (sr1_post (Rel := fun _ _ (_ : Unit) (_ : Unit) => True) re2 q)
  have rx := rx.mono k2 p2
  clear h
  unfold delD at q
  split at q <;> try (exact q.elim)
  rename_i n
  split at q
  · rename_i kvs e
    split at q
    · rename_i hk
      obtain ⟨a, gs, rfl, hm, rkv, nd, hl, rdd, hd⟩ := rs2.dic rx e
      obtain ⟨qk, rq, rfl⟩ := RelK.of rk hk.1
      have g := rkv.get rq
      refine ⟨a, gs, qk, rfl, hd rfl, rfl, ?_, ?_⟩
      · cases e2 : dget kvs k with
        | none => rw [e2] at hk; cases hk.2
        | some d => rw [e2] at g; obtain ⟨v, g1, _⟩ := g; rw [g1]; rfl
      · have kp : Keep H2 (upd H2 a (.dK (dropK gs qk))) := Keep.put (hd rfl) (fun _ z => nomatch z) fun _ _ z => nomatch z
        obtain ⟨_, S4, mu4, p4, rs4, _, k4, re4, q⟩ := q () _ mu2 (List.prefix_refl _) (rs2.put hm (hd rfl) (fun _ z => nomatch z) (fun _ _ z => nomatch z) (fun _ z => nomatch z) ⟨_, (kv_drop rkv rq).mono kp (List.prefix_refl _), nd_drop nd, Nat.le_trans len_drop hl, upd_same⟩) trivial kp
        exact PostS.nx q rs4 re4
    · exact q.elim
  · exact q.elim
end
end Bs

set_option Elab.async false
set_option linter.all false
set_option maxRecDepth 100000
set_option maxHeartbeats 1000000
/-! Bs12: what is walked; for, while; list comprehensions; dict displays. -/
namespace Bs
open PySem PySem.Spec L2

/-- J yields what it yields over data, from (H0, mu0) on -/
structure ItR (w : Wd) (H0 : Hp) (mu0 : List Addr) (it : Bs.It) (J : L2.It) : Prop where
  opn : ∀ S, openI it S = .ok () S
  go : ∀ (i : Nat) (H : Hp) (mu : List Addr) (S : Store), Keep H0 H → mu0 <+: mu → RelS w H mu S →
    match nextI it i S with
    | .ok none S' => S' = S ∧ J.stop i H
    | .ok (some d) S' => J.go i H ∧ ∀ x H', J.yld i H x H' → ∃ mu', mu <+: mu' ∧ Keep H H' ∧ RelS w H' mu' S' ∧ RelD w H' mu' d x
    | .exc _ _ _ => False
    | .stuck => True
abbrev liftI (w : Wd) (W : WX) (m : Mx Bs.It) : TI := liftG w (ItR w) W m

section
variable {w : Wd} {X : Cx} {W : WX} {a b c e o i tg iter : Expr} {ma mb mc : Mx D} {pos p : Pos}

theorem PI.imp {t t' : TI} (h : PI X tg e t) (q : ∀ σ H R, t' σ H R → t σ H R) : PI X tg e t' := ⟨fun pins s σ H R I z => h.run pins s σ H R I (q _ _ _ z)⟩
theorem PI.pick {m m1 m2 : Mx Bs.It} (h1 : PI X tg e (liftI w W m1)) (h2 : PI X tg e (liftI w W m2)) (hp : ∀ rho S, m rho S = m1 rho S ∨ m rho S = m2 rho S) : PI X tg e (liftI w W m) := by
  refine ⟨fun pins s σ H R I ⟨rho, S, mu, re, rs, z⟩ => ?_⟩
  rcases hp rho S with q | q
  · exact h1.run pins s σ H R I ⟨rho, S, mu, re, rs, by rw [← q]; exact z⟩
  · exact h2.run pins s σ H R I ⟨rho, S, mu, re, rs, by rw [← q]; exact z⟩

/-! ### lists, tuples, texts -/
def itT (x : D) (S : Store) : Res Bs.It := match x with
  | .tup xs => .ok (.items xs) S
  | _ => .stuck
def itS (x : D) (S : Store) : Res Bs.It := match x with
  | .str z => .ok (.items (z.map fun c => .str [c])) S
  | _ => .stuck
def itL (x : D) (S : Store) : Res Bs.It := match x with
  | .scr ns => .ok (.items (ns.map .int)) S
  | .ref n => match S[n]? with
    | some (.lst _) => .ok (.live n) S
    | _ => .stuck
  | _ => .stuck
theorem items_next {xs : List D} {j : Nat} {S : Store} : nextI (.items xs) j S = .ok xs[j]? S := rfl
theorem itr_tup {H : Hp} {mu : List Addr} {ds : List D} {vs : List V} {a : Addr} (t : Tup w.K H a vs) (r : RelDs w H mu ds vs) : ItR w H mu (.items ds) (Itt w.K a) := by
  refine ⟨fun _ => rfl, fun j H1 mu1 S k p rs => ?_⟩
  rw [items_next]
  have t1 := (t.keep k).sq
  have r1 := r.mono k p
  cases e : ds[j]? with
  | none =>
    refine ⟨rfl, vs, t1, ?_⟩
    rw [← r.length]
    exact List.getElem?_eq_none_iff.mp e
  | some d =>
    obtain ⟨v, e2, rd⟩ := r1.get e
    refine ⟨⟨vs, v, t1, e2⟩, fun x H' ⟨eh, hx⟩ => ?_⟩
    subst eh
    have := hx vs t1
    rw [e2] at this
    cases this
    exact ⟨mu1, List.prefix_refl _, .refl, rs, rd⟩
theorem itr_scr {H : Hp} {mu : List Addr} : ItR w H mu (.items (w.ns0.map .int)) (Itl w.K w.a0) := by
  refine ⟨fun _ => rfl, fun j H1 mu1 S k p rs => ?_⟩
  rw [items_next]
  have q := rs.scr.sq
  rw [List.getElem?_map]
  cases e : w.ns0[j]? with
  | none => exact ⟨rfl, _, q, by rw [List.length_map]; exact List.getElem?_eq_none_iff.mp e⟩
  | some n =>
    refine ⟨⟨_, .int n, q, by rw [List.getElem?_map, e]; rfl⟩, fun x H' ⟨eh, hx⟩ => ?_⟩
    subst eh
    have := hx _ q
    rw [List.getElem?_map, e] at this
    cases this
    exact ⟨mu1, List.prefix_refl _, .refl, rs, .int⟩
theorem itr_live {H : Hp} {mu : List Addr} {n : Nat} {a : Addr} (hm : mu[n]? = some a) : ItR w H mu (.live n) (Itl w.K a) := by
  refine ⟨fun _ => rfl, fun j H1 mu1 S k p rs => ?_⟩
  have hm1 := get_prefix p hm
  unfold nextI
  dsimp only
  cases e : S[n]? with
  | none => trivial
  | some o =>
    cases o with
    | lst xs =>
      obtain ⟨vs, rr, ha, l⟩ := rs.obj _ _ _ e hm1
      have q : SqL w.K H1 a vs := SqL.of ha
      dsimp only
      cases e1 : xs[j]? with
      | none => exact ⟨rfl, vs, q, by rw [← rr.length]; exact List.getElem?_eq_none_iff.mp e1⟩
      | some d =>
        obtain ⟨v, e2, rd⟩ := rr.get e1
        refine ⟨⟨vs, v, q, e2⟩, fun x H' ⟨eh, hx⟩ => ?_⟩
        subst eh
        have := hx vs q
        rw [e2] at this
        cases this
        exact ⟨mu1, List.prefix_refl _, .refl, rs, rd⟩
    | _ => trivial
theorem itr_str {H : Hp} {mu : List Addr} {z : List Nat} (ok : okStr z) : ItR w H mu (.items (z.map fun c => .str [c])) (Its (S2 z)) := by
  refine ⟨fun _ => rfl, fun j H1 mu1 S k p rs => ?_⟩
  rw [items_next, List.getElem?_map]
  cases e : z[j]? with
  | none => exact ⟨rfl, by show (S2 z).cps.size ≤ j; simpa [S2] using List.getElem?_eq_none_iff.mp e⟩
  | some ch =>
    refine ⟨by show j < (S2 z).cps.size; simpa [S2] using (List.getElem?_eq_some_iff.mp e).1, fun x H' ⟨eh, c', e2, ex⟩ => ?_⟩
    subst eh ex
    have : c' = ch := by
      have h2 : (S2 z).cps[j]? = some ch := by simpa [S2] using e
      rw [h2] at e2; cases e2; rfl
    subst this
    exact ⟨mu1, List.prefix_refl _, .refl, rs, .str (x := [c']) (ok.one (List.mem_of_getElem? e))⟩
theorem pi_exp1 {f : D → Store → Res Bs.It} {t : TI} (h : PI X tg e t) (o : ∀ σ H R, (liftE w W ma σ H fun v H1 => ∃ d S1 mu1, RelS w H1 mu1 S1 ∧ RelD w H1 mu1 d v ∧ Post w (ItR w) W σ H1 mu1 (f d S1) R) → t σ H R) : PI X tg e (liftI w W (ev1 ma f)) :=
  PI.imp h fun σ H R z => o σ H R (lift_ev1 (RA := RelD w) z)
theorem si_T (ha : PE X e (liftE w W ma)) (hK : X.K = w.K) : PI X tg e (liftI w W (ev1 ma itT)) := by
  refine pi_exp1 (pi_tup ha) fun σ H R z => z.imp fun v H1 hh => ?_
  obtain ⟨d, S1, mu1, rs, rd, q⟩ := hh
  cases rd <;> try (exact q.elim)
  rename_i a vs ds t r l
  exact ⟨a, rfl, ⟨vs, hK ▸ t.sq⟩, hK ▸ Post.ok (Rel := ItR w) q rs (itr_tup t r)⟩
theorem si_S (ha : PE X e (liftE w W ma)) : PI X tg e (liftI w W (ev1 ma itS)) := by
  refine pi_exp1 (pi_str ha) fun σ H R z => z.imp fun v H1 hh => ?_
  obtain ⟨d, S1, mu1, rs, rd, q⟩ := hh
  cases rd <;> try (exact q.elim)
  rename_i x ok
  exact ⟨_, rfl, Post.ok (Rel := ItR w) q rs (itr_str ok)⟩
theorem si_L (ha : PE X e (liftE w W ma)) (hK : X.K = w.K) : PI X tg e (liftI w W (ev1 ma itL)) := by
  refine pi_exp1 (pi_list ha) fun σ H R z => z.imp fun v H1 hh => ?_
  obtain ⟨d, S1, mu1, rs, rd, q⟩ := hh
  cases rd <;> try (exact q.elim)
  · rename_i n a hm
    unfold itL at q
    dsimp only at q
    split at q
    · rename_i xs e
      obtain ⟨vs, rr, ha, l⟩ := rs.obj _ _ _ e hm
      exact ⟨a, rfl, ⟨vs, SqL.of ha⟩, hK ▸ Post.ok (Rel := ItR w) q rs (itr_live hm)⟩
    · exact q.elim
  · exact ⟨w.a0, rfl, ⟨_, hK ▸ rs.scr.sq⟩, hK ▸ Post.ok (Rel := ItR w) q rs itr_scr⟩
theorem it_pick (x : D) (S : Store) : iterD x S = itT x S ∨ iterD x S = itS x S ∨ iterD x S = itL x S := by
  cases x with
  | tup xs => exact .inl rfl
  | str z => exact .inr (.inl rfl)
  | _ => exact .inr (.inr rfl)
theorem si_exp (ha : PE X e (liftE w W ma)) (hK : X.K = w.K) : PI X tg e (liftI w W (ev1 ma iterD)) := by
  refine ⟨fun pins s σ H R I ⟨rho, S, mu, re, rs, z⟩ => ?_⟩
  have z0 : Post w (ItR w) W σ H mu ((ma rho S).bind iterD) R := z
  have key : (ma rho S).bind iterD = (ma rho S).bind itT ∨ (ma rho S).bind iterD = (ma rho S).bind itS ∨ (ma rho S).bind iterD = (ma rho S).bind itL := by
    cases ma rho S with
    | ok x S1 => exact it_pick x S1
    | exc c fs S1 => exact .inl rfl
    | stuck => exact .inl rfl
  rcases key with q | q | q
  · exact (si_T ha hK).run pins s σ H R I ⟨rho, S, mu, re, rs, by show Post w (ItR w) W σ H mu ((ma rho S).bind itT) R; rw [← q]; exact z0⟩
  · exact (si_S ha).run pins s σ H R I ⟨rho, S, mu, re, rs, by show Post w (ItR w) W σ H mu ((ma rho S).bind itS) R; rw [← q]; exact z0⟩
  · exact (si_L ha hK).run pins s σ H R I ⟨rho, S, mu, re, rs, by show Post w (ItR w) W σ H mu ((ma rho S).bind itL) R; rw [← q]; exact z0⟩

/-! ### ranges -/
theorem itr_rng {H : Hp} {mu : List Addr} {lo hi : Int} : ItR w H mu (.items (rangeD lo hi)) (Itr lo (hi - lo).toNat) := by
  refine ⟨fun _ => rfl, fun j H1 mu1 S k p rs => ?_⟩
  rw [items_next]
  unfold rangeD
  rw [List.getElem?_map]
  by_cases hj : j < (hi - lo).toNat
  · rw [List.getElem?_range hj]
    exact ⟨hj, fun x H' ⟨eh, ex⟩ => by subst eh ex; exact ⟨mu1, List.prefix_refl _, .refl, rs, .int⟩⟩
  · rw [List.getElem?_eq_none (by simpa using Nat.le_of_not_lt hj)]
    exact ⟨rfl, Nat.le_of_not_lt hj⟩
theorem si_range1 (hg : Gl X "range") (hm : X.mg "range" = none) (ha : PE X a (liftE w W ma)) (na : notStar a = true) : PI X tg (.Call (.Name "range" p) [a] [] pos) (liftI w W (ev1 ma fun x S => match x with
    | .int j => if -bound ≤ j ∧ j ≤ bound then .ok (.items (rangeD 0 j)) S else .stuck
    | _ => .stuck)) := by
  refine PI.imp (pi_range1 hg hm (sa_cons ha sa_nil (star_cons na)) (star_cons na)) fun σ H R z => ?_
  obtain ⟨rho, S, mu, re, rs, z⟩ := z
  refine ⟨rho, S, mu, re, rs, ?_⟩
  have z := Post.bind (Rel := RelD w) z
  show Post w (RelDs w) W σ H mu ((ma rho S).bind fun x S1 => .ok [x] S1) _
  cases e : ma rho S with
  | ok d S1 =>
    rw [e] at z
    intro vs H' mu' p' rs' rd k
    cases rd with
    | cons r1 rr =>
      cases rr
      obtain ⟨d', S1', mu1, p1, rs1, rd1, k1, q⟩ := z _ H' mu' p' rs' r1 k
      cases rd1 <;> try (exact q.elim)
      rename_i j
      dsimp only at q
      split at q
      · rename_i hb
        have := hb.1
        have := hb.2
        unfold bound at *
        refine ⟨j, rfl, by omega, by omega, ?_⟩
        have := Post.ok (Rel := ItR w) q rs1 itr_rng
        simpa using this
      · exact q.elim
  | exc c fs S1 => rw [e] at z; exact z
  | stuck => rw [e] at z; exact z
theorem si_range2 (hg : Gl X "range") (hm : X.mg "range" = none) (ha : PE X a (liftE w W ma)) (hb : PE X b (liftE w W mb)) (na : notStar a = true) (nb : notStar b = true) : PI X tg (.Call (.Name "range" p) [a, b] [] pos) (liftI w W (ev2 ma mb fun x y S => match x, y with
    | .int i, .int j => if -bound ≤ i ∧ i ≤ bound ∧ -bound ≤ j ∧ j ≤ bound then .ok (.items (rangeD i j)) S else .stuck
    | _, _ => .stuck)) := by
  refine PI.imp (pi_range2 hg hm (sa_cons ha (sa_cons hb sa_nil (star_cons nb)) (star_cons na)) (by rw [star_cons na, star_cons nb]; rfl) (by rw [star_cons nb]; rfl)) fun σ H R z => ?_
  obtain ⟨rho, S, mu, re, rs, z⟩ := z
  refine ⟨rho, S, mu, re, rs, ?_⟩
  unfold ev2 at z
  show Post w (RelDs w) W σ H mu ((ma rho S).bind fun x S1 => ((mb rho S1).bind fun x S1 => .ok [x] S1).bind fun y S2 => .ok (x :: y) S2) _
  cases e : ma rho S with
  | ok d S1 =>
    rw [e] at z
    simp only [bind_ok] at z ⊢
    cases e2 : mb rho S1 with
    | ok d2 S2 =>
      rw [e2] at z
      simp only [bind_ok] at z ⊢
      intro vs H' mu' p' rs' rd k
      have q := Post.rebase p' k z
      cases rd with
      | cons r1 rr =>
        cases rr with
        | cons r2 rr =>
          cases rr
          cases r1 <;> try (exact q.elim)
          rename_i i
          cases r2 <;> try (exact q.elim)
          rename_i j
          dsimp only at q
          split at q
          · rename_i hb
            obtain ⟨h1, h2, h3, h4⟩ := hb
            unfold bound at *
            exact ⟨i, j, rfl, ⟨by omega, by omega, by omega, by omega⟩, Post.ok (Rel := ItR w) q rs' itr_rng⟩
          · exact q.elim
    | exc c fs S2 => rw [e2] at z; exact z
    | stuck => rw [e2] at z; exact z
  | exc c fs S1 => rw [e] at z; exact z
  | stuck => rw [e] at z; exact z

/-! ### for -/
theorem shut_id {it : Bs.It} {r : SR} (h : ∀ S, openI it S = .ok () S) : shutS it r = r := by
  cases r <;> unfold shutS <;> (try simp only [h]) <;> rfl
theorem ss_for {m : Mx Bs.It} {g : TG} {T : Tg} {body : List Stmt} {mb : Mz} (hp : PassesOwn (model X.prog X.w) X.A X.env X.xe) (hc : X.calm = true) (hi : PI X tg iter (liftI w W m)) (hg : PG X tg g) (hT : TgR w g T) (hb : PSs X body (liftS w W mb))
    (hs : ∀ x, foldedSetIterable iter X.env x = pure x) :
    PS X (.For tg iter body [] pos) (liftS w W fun rho S => sr1 rho (m rho S) fun it S => shutS it (forN it T mb (lenI it S) 0 rho S)) := by
  refine PS.imp (ps_for hp hc hi hg hb hs) fun E σ H h => liftG.imp (sr1_lift (Rel := ItR w) (f := fun rho it S => shutS it (forN it T mb (lenI it S) 0 rho S)) h) fun J H0 hh => ?_
  obtain ⟨rho, it, S0, mu0, rs0, ri, re0, q0⟩ := hh
  rw [shut_id ri.opn] at q0
  refine ⟨fun n fuel σ H => ∃ rho S mu, Keep H0 H ∧ mu0 <+: mu ∧ RelE w H mu rho σ ∧ RelS w H mu S ∧ PostS w W H mu (forN it T mb fuel n rho S) E, ⟨lenI it S0, rho, S0, mu0, .refl, List.prefix_refl _, re0, rs0, q0⟩, ?_⟩
  rintro n fuel σ H ⟨rho, S, mu, kp, pm, re, rs, q⟩
  have g := ri.go n H mu S kp pm rs
  unfold forN at q
  cases e : nextI it n S with
  | exc c fs S' => rw [e] at g; exact g.elim
  | stuck => rw [e] at q; exact q.elim
  | ok d S' =>
    rw [e] at g q
    simp only [sr1_ok] at q
    cases d with
    | none =>
      obtain ⟨es, hst⟩ := g
      subst es
      exact .inl ⟨hst, PostS.nx q rs re⟩
    | some d =>
      obtain ⟨hgo, hy⟩ := g
      cases fuel with
      | zero => exact q.elim
      | succ fuel =>
        dsimp only at q
        refine .inr ⟨hgo, fun σ' H' => ∃ rho S mu, Keep H0 H' ∧ mu0 <+: mu ∧ RelE w H' mu rho σ' ∧ RelS w H' mu S ∧ PostS w W H' mu (forN it T mb fuel (n + 1) rho S) E, fun σ' H' hn => ⟨fuel, Nat.lt_succ_self _, hn⟩, fun x H' yl => ?_⟩
        obtain ⟨mu', p', k', rs', rd'⟩ := hy x H' yl
        cases e2 : tgD T d rho with
        | none => rw [e2] at q; exact q.elim
        | some r1 =>
          rw [e2] at q
          dsimp only at q
          refine hT H' mu' d x rho r1 σ _ (re.mono k' p') rd' e2 fun σ2 re2 _ _ => ⟨r1, S', mu', re2, rs', ?_⟩
          cases e3 : mb r1 S' with
          | nx r S3 =>
            rw [e3] at q
            exact fun σ3 H3 mu3 p3 rs3 re3 k3 => ⟨r, S3, mu3, kp.trans (k'.trans k3), pm.trans (p'.trans p3), re3, rs3, PostS.rebase (p'.trans p3) (k'.trans k3) q⟩
          | ct r S3 =>
            rw [e3] at q
            exact fun σ3 H3 mu3 p3 rs3 re3 k3 => ⟨r, S3, mu3, kp.trans (k'.trans k3), pm.trans (p'.trans p3), re3, rs3, PostS.rebase (p'.trans p3) (k'.trans k3) q⟩
          | bk r S3 =>
            rw [e3] at q
            exact PostS.rebase (E := { E with nx := E.bk, bk := E.nx, ct := E.ct }) p' k' (show PostS w W H mu (.bk r S3) { E with nx := E.bk, bk := E.nx, ct := E.ct } from q)
          | rt d S3 => rw [e3] at q; exact PostS.rebase (E := E) p' k' q
          | ex c fs r S3 => rw [e3] at q; exact PostS.rebase (E := E) p' k' q
          | stuck => rw [e3] at q; exact q
def whileT (mt : Mx Bool) (mb : Mz) (fuel : Nat) : Mz := fun rho S => match fuel with
  | 0 => .stuck
  | fuel + 1 => match mb rho S with
    | .nx r S => whileN mt mb fuel r S
    | .ct r S => whileN mt mb fuel r S
    | .bk r S => .nx r S
    | r => r
theorem whileN_eq {mt : Mx Bool} {mb : Mz} {fuel : Nat} {rho : En} {S : Store} : whileN mt mb fuel rho S = sr1 rho (mt rho S) fun b S => if b = true then whileT mt mb fuel rho S else .nx rho S := by
  cases fuel <;> (unfold whileN; rfl)
theorem ss_while {mt : Mx Bool} {body : List Stmt} {mb : Mz} {fuel : Nat} (hp : PassesOwn (model X.prog X.w) X.A X.env X.xe) (hc : PT X c (liftT w W mt)) (hb : PSs X body (liftS w W mb)) :
    PS X (.While c body [] pos) (liftS w W (whileN mt mb fuel)) := by
  refine PS.imp (ps_while hp hc hb) fun E σ H h => ?_
  refine ⟨fun fuel σ H => liftS w W (whileN mt mb fuel) E σ H, ⟨fuel, h⟩, ?_⟩
  rintro fuel σ H ⟨rho, S, mu, re, rs, q⟩
  rw [whileN_eq] at q
  refine ⟨rho, S, mu, re, rs, (sr1_post (Rel := relB) re q).imp fun t H1 hh => ?_⟩
  obtain ⟨t', S1, mu1, p1, rs1, rt, k1, re1, q1⟩ := hh
  obtain rfl : t' = t := rt
  cases t' with
  | false => exact PostS.nx q1 rs1 re1
  | true =>
    cases fuel with
    | zero => exact q1.elim
    | succ fuel =>
      simp only [if_true] at q1 ⊢
      unfold whileT at q1
      dsimp only at q1
      refine ⟨fun σ' H' => liftS w W (whileN mt mb fuel) E σ' H', fun σ' H' hn => ⟨fuel, Nat.lt_succ_self _, hn⟩, rho, S1, mu1, re1, rs1, ?_⟩
      cases e3 : mb rho S1 with
      | nx r S3 => rw [e3] at q1; exact fun σ3 H3 mu3 p3 rs3 re3 k3 => ⟨r, S3, mu3, re3, rs3, PostS.rebase p3 k3 q1⟩
      | ct r S3 => rw [e3] at q1; exact fun σ3 H3 mu3 p3 rs3 re3 k3 => ⟨r, S3, mu3, re3, rs3, PostS.rebase p3 k3 q1⟩
      | bk r S3 => rw [e3] at q1; exact q1
      | rt d S3 => rw [e3] at q1; exact q1
      | ex c fs r S3 => rw [e3] at q1; exact q1
      | stuck => rw [e3] at q1; exact q1
end
end Bs

set_option Elab.async false
set_option linter.all false
set_option maxRecDepth 100000
set_option maxHeartbeats 1000000
/-! Bs13: list comprehensions; dict displays. -/
namespace Bs
open PySem PySem.Spec L2

theorem RelE.wipe1 {w : Wd} {H : Hp} {mu : List Addr} {rho : En} {σ : St} {i : Nat} (r : RelE w H mu rho σ) : RelE w H mu (rho.set i none) (σ.set i none) := by
  refine ⟨by simp [r.len], fun j e h => ?_⟩
  by_cases hj : i = j
  · subst hj
    by_cases hl : i < rho.length
    · rw [List.getElem?_set_self hl] at h; cases h
    · rw [List.getElem?_eq_none (by simpa using Nat.le_of_not_lt hl)] at h; cases h
  · rw [List.getElem?_set_ne hj] at h
    obtain ⟨u, h1, h2⟩ := r.get j e h
    exact ⟨u, by rw [List.getElem?_set_ne hj]; exact h1, h2⟩
theorem RelE.wipe {w : Wd} {H : Hp} {mu : List Addr} {rho : En} {σ : St} (r : RelE w H mu rho σ) : ∀ vs : List Nat, RelE w H mu (vs.foldr (fun v r => r.set v none) rho) (L2.wipe σ vs)
  | [] => r
  | v :: vs => RelE.wipe1 (RelE.wipe r vs)
theorem wipe_get (σ : St) (i : Nat) : ∀ vs : List Nat, (wipe σ vs)[i]? = if i ∈ vs then (if i < σ.length then some none else none) else σ[i]?
  | [] => by simp [wipe]
  | v :: vs => by
    show ((wipe σ vs).set v none)[i]? = _
    have ih := wipe_get σ i vs
    by_cases h : v = i
    · subst h
      by_cases hl : v < σ.length
      · rw [List.getElem?_set_self (by rw [wipe_length]; exact hl)]; simp [hl]
      · rw [List.getElem?_eq_none (by rw [List.length_set, wipe_length]; omega)]; simp [hl]
    · rw [List.getElem?_set_ne h, ih]
      by_cases hm : i ∈ vs
      · simp [hm]
      · simp [hm, Ne.symm h]
theorem wipe_same {σ σ2 : St} {vs is : List Nat} (hs : ∀ i ∈ is, i ∈ vs) (h1 : ∀ j, j ∉ is → σ2[j]? = (wipe σ vs)[j]?) (h2 : σ2.length = (wipe σ vs).length) : wipe σ2 vs = wipe σ vs := by
  refine List.ext_getElem? fun i => ?_
  rw [wipe_get, wipe_get]
  rw [wipe_length] at h2
  by_cases hm : i ∈ vs
  · simp [hm, h2]
  · simp only [hm, if_false]
    rw [h1 i fun z => hm (hs i z), wipe_get]
    simp [hm]

abbrev WF : WX := fun _ _ _ _ => False
def compM (m : Mx Bs.It) (T : Tg) (own : List Nat) (mt : Mx Bool) (me : Mx D) : Mx D := fun rho S => (m rho S).bind fun it S => match it with
  | .keys _ _ _ => .stuck
  | it => (alloc (.lst []) S).bind fun d S => match d with
    | .ref n0 => noX (compN it T own n0 mt me rho (lenI it S) 0 S)
    | _ => .stuck
section
variable {w : Wd} {X : Cx} {W : WX} {elt tg iter : Expr} {pos : Pos}
theorem comp_start {it : Bs.It} {T : Tg} {own : List Nat} {mt : Mx Bool} {me : Mx D} {rho : En} {S : Store} {σ : St} {H : Hp} {mu : List Addr} {Q : VK}
    (h : Post w (RelD w) W σ H mu (match it with
      | .keys _ _ _ => .stuck
      | it => (alloc (.lst []) S).bind fun d S => match d with
        | .ref n0 => noX (compN it T own n0 mt me rho (lenI it S) 0 S)
        | _ => .stuck) Q) (ho : ∀ S, openI it S = .ok () S) :
    Post w (RelD w) W σ H mu (noX (compN it T own S.length mt me rho (lenI it (S ++ [.lst []])) 0 (S ++ [.lst []]))) Q := by
  cases it with
  | keys n was xs => exact h.elim
  | items xs => exact h
  | live n => exact h
  | enum n => exact h
theorem se_lc {m : Mx Bs.It} {g : TG} {T : Tg} {mt : Mx Bool} {me : Mx D} {ifs : List Expr} {scope : Scope} {own : List (Str × Nat)} (hc : X.calm = true) (hN : X.N.Nodup) (hi : PI X tg iter (liftI w W m)) (ok : BlkOk X.N X.env.scope scope own)
    (hg : ∀ (s : Shared) (H : Hp) (C : Addr) (cl : List (Str × Addr)) (fp : List Addr), PG (X.blk s H scope (compEnvC scope cl C X.env) fp) tg g) (hT : TgR w g T) (hsub : ∀ i ∈ tgIs T, i ∈ own.map (·.2))
    (ht : ∀ (s : Shared) (H : Hp) (C : Addr) (cl : List (Str × Addr)) (fp : List Addr), PTs (X.blk s H scope (compEnvC scope cl C X.env) fp) ifs (liftT w WF mt))
    (he : ∀ (s : Shared) (H : Hp) (C : Addr) (cl : List (Str × Addr)) (fp : List Addr), PE (X.blk s H scope (compEnvC scope cl C X.env) fp) elt (liftE w WF me)) (hs : ∀ x, foldedSetIterable iter X.env x = pure x) :
    (∀ {t : TE}, (∀ σ H Q, t σ H Q → tLc (liftI w W m) g (liftT w WF mt) (liftE w WF me) (own.map (·.2)) σ H Q) → PE X (.ListComp elt [⟨tg, iter, ifs, 0⟩] scope pos) t) ∧
    ∀ σ H Q, liftE w W (compM m T (own.map (·.2)) mt me) σ H Q → tLc (liftI w W m) g (liftT w WF mt) (liftE w WF me) (own.map (·.2)) σ H Q := by
  refine ⟨fun h => PE.imp (pe_lc hc hN hi ok hg ht he hs) h, fun σ H Q ⟨rho, S, mu, re, rs, z⟩ => ?_⟩
  refine ⟨rho, S, mu, re, rs, (Post.bind (Rel := ItR w) z).imp fun J H1 hh D hD => ?_⟩
  obtain ⟨it, S1, mu1, p1, rs1, ri, k1, q⟩ := hh
  have q := comp_start q ri.opn
  have re1 := re.mono k1 p1
  have rs2 : RelS w (upd H1 D (.lst [])) (mu1 ++ [D]) (S1 ++ [.lst []]) := rs1.new hD ⟨[], .nil, upd_same, Nat.zero_le _⟩
  have hD2 : (mu1 ++ [D])[S1.length]? = some D := by rw [← rs1.len]; simp
  have q := Post.rebase (List.prefix_append mu1 [D]) (Keep.new (o := .lst []) hD) q
  generalize hn0 : S1.length = n0 at q hD2
  generalize hmu2 : mu1 ++ [D] = mu2 at rs2 hD2 q
  have p12 : mu1 <+: mu2 := by rw [← hmu2]; exact List.prefix_append _ _
  have k12 : Keep H1 (upd H1 D (.lst [])) := Keep.new hD
  generalize hH2 : upd H1 D (.lst []) = H2 at rs2 q k12
  refine ⟨fun n fuel H => ∃ S mu, Keep H2 H ∧ mu2 <+: mu ∧ RelS w H mu S ∧ Post w (RelD w) W σ H mu (noX (compN it T (own.map (·.2)) n0 mt me rho fuel n S)) Q, ⟨_, _, mu2, .refl, List.prefix_refl _, rs2, q⟩, ?_⟩
  rintro n fuel H3 ⟨S3, mu3, k3, p3, rs3, q3⟩
  have g3 := ri.go n H3 mu3 S3 (k12.trans k3) (p12.trans p3) rs3
  unfold compN at q3
  cases e : nextI it n S3 with
  | exc c fs S' => rw [e] at g3; exact g3.elim
  | stuck => rw [e] at q3; exact q3.elim
  | ok d S' =>
    rw [e] at g3 q3
    simp only [bind_ok] at q3
    cases d with
    | none =>
      obtain ⟨es, hst⟩ := g3
      subst es
      exact .inl ⟨hst, Post.ok (Rel := RelD w) q3 rs3 (.ref (get_prefix p3 hD2))⟩
    | some d =>
      obtain ⟨hgo, hy⟩ := g3
      cases fuel with
      | zero => exact q3.elim
      | succ fuel =>
        dsimp only at q3
        refine .inr ⟨hgo, fun H' => ∃ S mu, Keep H2 H' ∧ mu2 <+: mu ∧ RelS w H' mu S ∧ Post w (RelD w) W σ H' mu (noX (compN it T (own.map (·.2)) n0 mt me rho fuel (n + 1) S)) Q, fun H' hn => ⟨fuel, Nat.lt_succ_self _, hn⟩, fun x H4 yl => ?_⟩
        obtain ⟨mu4, p4, k4, rs4, rd4⟩ := hy x H4 yl
        cases e2 : tgD T d ((own.map (·.2)).foldr (fun v r => r.set v none) rho) with
        | none => rw [e2] at q3; exact q3.elim
        | some r1 =>
          rw [e2] at q3
          dsimp only at q3
          have kk : Keep H1 H4 := k12.trans (k3.trans k4)
          have pp : mu1 <+: mu4 := p12.trans (p3.trans p4)
          refine hT H4 mu4 d x _ r1 _ _ ((re1.mono kk pp).wipe _) rd4 e2 fun σ2 re2 h1 h2 => ⟨wipe_same hsub h1 h2, r1, S', mu4, re2, rs4, ?_⟩
          cases e3 : mt r1 S' with
          | exc c fs S5 => rw [e3] at q3; exact q3.elim
          | stuck => rw [e3] at q3; exact q3.elim
          | ok b S5 =>
            rw [e3] at q3
            simp only [bind_ok] at q3
            intro b' H5 mu5 p5 rs5 rb k5
            obtain rfl : b = b' := rb
            cases b with
            | false =>
              simp only [Bool.false_eq_true, if_false] at q3 ⊢
              exact ⟨S5, mu5, k3.trans (k4.trans k5), p3.trans (p4.trans p5), rs5, Post.rebase (p4.trans p5) (k4.trans k5) q3⟩
            | true =>
              simp only [if_true] at q3 ⊢
              refine ⟨r1, S5, mu5, re2.mono k5 p5, rs5, ?_⟩
              cases e4 : me r1 S5 with
              | exc c fs S6 => rw [e4] at q3; exact q3.elim
              | stuck => rw [e4] at q3; exact q3.elim
              | ok y S6 =>
                rw [e4] at q3
                simp only [bind_ok] at q3
                intro v H6 mu6 p6 rs6 rv k6
                have hD6 : mu6[n0]? = some D := get_prefix (p3.trans (p4.trans (p5.trans p6))) hD2
                cases e5 : S6[n0]? with
                | none => rw [e5] at q3; exact q3.elim
                | some o =>
                  rw [e5] at q3
                  cases o with
                  | lst acc =>
                    dsimp only at q3
                    split at q3
                    · rename_i hl
                      obtain ⟨us, ru, hu, _⟩ := rs6.obj _ _ _ e5 hD6
                      have kp : Keep H6 (upd H6 D (.lst (us ++ [v]))) := Keep.put hu (fun _ z => nomatch z) fun _ _ z => nomatch z
                      refine ⟨us, hu, by rw [← ru.length]; exact hl, S6.set n0 (.lst (acc ++ [y])), mu6, k3.trans (k4.trans (k5.trans (k6.trans kp))), p3.trans (p4.trans (p5.trans p6)),
                        rs6.put hD6 hu (fun _ z => nomatch z) (fun _ _ z => nomatch z) (fun _ z => nomatch z) ⟨_, (ru.append (.cons rv .nil)).mono kp (List.prefix_refl _), upd_same, by rw [List.length_append]; exact hl⟩, Post.rebase (p4.trans (p5.trans p6)) (k4.trans (k5.trans (k6.trans kp))) q3⟩
                    · exact q3.elim
                  | _ => exact q3.elim
/-- name = [..] -/
theorem ss_setLc {i : Nat} {y : Str} {py spos : Pos} {m : Mx Bs.It} {g : TG} {T : Tg} {mt : Mx Bool} {me : Mx D} {ifs : List Expr} {scope : Scope} {own : List (Str × Nat)} (hc : X.calm = true) (hN : X.N.Nodup) (hy : X.N[i]? = some y) (hyl : X.env.scope.names.lookup y = some .local)
    (hsw : swapsWith (.ListComp elt [⟨tg, iter, ifs, 0⟩] scope pos) (some (.Name y py)) spos.line X.env = pure true) (hi : PI X tg iter (liftI w W m)) (ok : BlkOk X.N X.env.scope scope own)
    (hg : ∀ (s : Shared) (H : Hp) (C : Addr) (cl : List (Str × Addr)) (fp : List Addr), PG (X.blk s H scope (compEnvC scope cl C X.env) fp) tg g) (hT : TgR w g T) (hsub : ∀ i ∈ tgIs T, i ∈ own.map (·.2))
    (ht : ∀ (s : Shared) (H : Hp) (C : Addr) (cl : List (Str × Addr)) (fp : List Addr), PTs (X.blk s H scope (compEnvC scope cl C X.env) fp) ifs (liftT w WF mt))
    (he : ∀ (s : Shared) (H : Hp) (C : Addr) (cl : List (Str × Addr)) (fp : List Addr), PE (X.blk s H scope (compEnvC scope cl C X.env) fp) elt (liftE w WF me)) (hs : ∀ x, foldedSetIterable iter X.env x = pure x) :
    PS X (.Assign [.Name y py] (.ListComp elt [⟨tg, iter, ifs, 0⟩] scope pos) spos) (liftS w W fun rho S => sr1 rho (compM m T (own.map (·.2)) mt me rho S) fun x S => optS (tgD (.name i) x rho) S) := by
  refine PS.imp (ps_setLc hc hN hy hyl hsw hi ok hg ht he hs) fun E σ H h => ?_
  refine (se_lc (pos := pos) hc hN hi ok hg hT hsub ht he hs).2 σ H _ ?_
  refine liftG.imp (sr1_lift (Rel := RelD w) (f := fun rho x S => optS (tgD (.name i) x rho) S) h) fun v H1 ⟨rho, a, S1, mu1, rs, ra, re, q⟩ => ?_
  exact PostS.nx q rs (re.set ra)

/-! ### dicts -/
theorem se_dict0T : PE X (.Dict [] [] pos) (liftE w W fun _ S => alloc (.dit []) S) := by
  refine ⟨fun pins s σ H Q I ⟨rho, S, mu, re, rs, z⟩ => ?_⟩
  have hsm : (s.heap.objs.size == sysModules) = false := beq_eq_false_iff_ne.mpr (Ne.symm (Nat.ne_of_lt I.big))
  have hn := I.hok.fresh (Nat.le_refl s.heap.objs.size)
  refine wpAny_Dict_empty ⟨.ref s.heap.objs.size, _, I.laid (a := s.heap.objs.size) (o := tdO w s.heap.objs.size []) (t' := s.toks) (fun _ _ q => Heap.get?_push_of_some _ q) (Nat.le_refl _) ?_, rfl, post_new rs z hn ⟨[], .nil, List.nodup_nil, Nat.zero_le _, hsm, upd_same⟩⟩
  refine ⟨⟨[], .nil, _, #[], 0, Heap.get?_push_size _ rfl, ⟨rfl, rfl, rfl⟩, rfl, rfl⟩, ⟨_, Heap.get?_push_size _ rfl⟩, fun h1 h2 p hh => ?_⟩
  obtain ⟨xs', r', o', es', ep', ho', rest⟩ := p
  exact ⟨xs', r', o', es', ep', hh _ ho', rest⟩

inductive RelPs (w : Wd) (H : Hp) (mu : List Addr) : List (D × D) → List (V × V) → Prop
  | nil : RelPs w H mu [] []
  | cons {k d : D} {u v : V} {ps qs} : RelD w H mu k u → RelD w H mu d v → RelPs w H mu ps qs → RelPs w H mu ((k, d) :: ps) ((u, v) :: qs)
def trs (w : Wd) (W : WX) (G : Lang) : IPs → List (TE × TE)
  | .nil => []
  | .cons k v r => (liftE w W (evE G k), liftE w W (evE G v)) :: trs w W G r
theorem trs_ok {G : Lang} : ∀ {ps : IPs} {σ : St} {H : Hp} {Q : List (V × V) → Hp → Prop}, liftG w (RelPs w) W (evPs G ps) σ H Q → tPairs (trs w W G ps) σ H Q
  | .nil, σ, H, Q, ⟨rho, S, mu, re, rs, z⟩ => Post.ok (Rel := RelPs w) z rs .nil
  | .cons k v r, σ, H, Q, ⟨rho, S, mu, re, rs, z⟩ => by
    have z : Post w (RelPs w) W σ H mu ((evE G k rho S).bind fun x S => (evE G v rho S).bind fun y S => (evPs G r rho S).bind fun ps S => .ok ((x, y) :: ps) S) Q := z
    refine ⟨rho, S, mu, re, rs, (Post.bind (Rel := RelD w) z).imp fun x H1 ⟨d, S1, mu1, p1, rs1, rd, k1, q⟩ => ?_⟩
    refine ⟨rho, S1, mu1, re.mono k1 p1, rs1, (Post.bind (Rel := RelD w) q).imp fun y H2 ⟨d2, S2, mu2, p2, rs2, rd2, k2, q⟩ => ?_⟩
    refine trs_ok ⟨rho, S2, mu2, re.mono (k1.trans k2) (p1.trans p2), rs2, (Post.bind (Rel := RelPs w) q).imp fun ps H3 ⟨ds, S3, mu3, p3, rs3, rds, k3, q⟩ => ?_⟩
    exact Post.ok (Rel := RelPs w) q rs3 (.cons (rd.mono (k2.trans k3) (p2.trans p3)) (rd2.mono k3 p3) rds)
theorem ps_keys {H : Hp} {mu : List Addr} {ps : List (D × D)} {qs : List (V × V)} (r : RelPs w H mu ps qs) (h : ps.all (fun p => isKey p.1) = true) : ∃ kvs, RelKV w H mu ps kvs ∧ qs = kvs.map fun kv => (kV kv.1, kv.2) := by
  induction r with
  | nil => exact ⟨[], .nil, rfl⟩
  | cons a b _ ih =>
    rw [List.all_cons, Bool.and_eq_true] at h
    obtain ⟨q, rk, rfl⟩ := RelK.of a h.1
    obtain ⟨kvs, rr, rfl⟩ := ih h.2
    exact ⟨_, .cons rk b rr, rfl⟩
theorem kv_merge {H : Hp} {mu : List Addr} : ∀ {ps acc : List (D × D)} {qs gs : List (Key × V)}, RelKV w H mu ps qs → RelKV w H mu acc gs → (gs.map (·.1)).Nodup →
    RelKV w H mu (ps.foldl (fun acc p => dput acc p.1 p.2) acc) (mergeK gs qs) ∧ ((mergeK gs qs).map (·.1)).Nodup
  | [], acc, _, gs, .nil, ra, nd => ⟨ra, nd⟩
  | (k, d) :: ps, acc, _, gs, .cons a b rr, ra, nd => by
    have z := kv_merge rr (kv_put ra a b) (nd_put nd)
    exact z
theorem se_disp {G : Lang} {keys : List (Option Expr)} {values : List Expr} {ps : IPs} (h : PPs X pos keys values (trs w W G ps)) (hall : keys.all (·.isSome) = true) (hl : keys.length = values.length) (h0 : keys ≠ []) (h15 : keys.length ≤ 15) :
    PE X (.Dict keys values pos) (liftE w W (evE G (.disp ps))) := by
  refine PE.imp (pe_disp h hall hl h0 h15) fun σ H Q ⟨rho, S, mu, re, rs, z⟩ p hp => ?_
  have rs1 : RelS w (upd H p (.dK [])) (mu ++ [p]) (S ++ [.dic false []]) := rs.new hp ⟨[], .nil, List.nodup_nil, Nat.zero_le _, upd_same⟩
  have k1 : Keep H (upd H p (.dK [])) := Keep.new hp
  have hp1 : (mu ++ [p])[S.length]? = some p := by rw [← rs.len]; simp
  have z : Post w (RelD w) W σ H mu ((evPs G ps rho (S ++ [.dic false []])).bind fun ps S' => if ps.all (fun p => isKey p.1) ∧ ps.length ≤ 15 then match S'[S.length]? with
      | some (.dic false []) => .ok (.ref S.length) (S'.set S.length (.dic false (ps.foldl (fun acc p => dput acc p.1 p.2) [])))
      | _ => .stuck
      else .stuck) Q := z
  refine trs_ok ⟨rho, _, _, re.mono k1 (List.prefix_append _ _), rs1, (Post.bind (Rel := RelPs w) (Post.rebase (List.prefix_append _ _) k1 z)).imp fun qs H2 ⟨ds, S2, mu2, p2, rs2, rds, k2, q⟩ => ?_⟩
  split at q
  · rename_i hk
    split at q
    · rename_i e
      have hm := get_prefix p2 hp1
      obtain ⟨gs, rg, nd, l, hd⟩ := rs2.obj _ _ _ e hm
      cases rg
      have hd : H2 p = some (.dK []) := hd
      obtain ⟨kvs, rkv, rfl⟩ := ps_keys rds hk.1
      obtain ⟨rm, ndm⟩ := kv_merge rkv .nil (by simp)
      have hlen := relkv_len rkv
      refine ⟨hd, kvs, rfl, by rw [← hlen]; exact hk.2, ?_⟩
      have kp : Keep H2 (upd H2 p (.dK (mergeK [] kvs))) := Keep.put hd (fun _ z => nomatch z) fun _ _ z => nomatch z
      refine q _ _ mu2 (List.prefix_refl _) (rs2.put hm hd (fun _ z => nomatch z) (fun _ _ z => nomatch z) (fun _ z => nomatch z) ⟨_, rm.mono kp (List.prefix_refl _), ndm, ?_, upd_same⟩) (.ref hm) kp
      rw [relkv_len rm]
      have h1 := length_mergeK kvs []
      rw [List.length_nil] at h1
      rw [← hlen] at h1
      have h2 := hk.2
      have h3 : 15 ≤ sizeLine := by decide
      omega
    · exact q.elim
  · exact q.elim
end
end Bs

set_option Elab.async false
set_option linter.all false
set_option maxRecDepth 100000
set_option maxHeartbeats 1000000
/-! Bs14: methods by the receiver; built-in functions by their names. -/
namespace Bs
open PySem PySem.Spec L2

section
variable {w : Wd} {X : Cx} {W : WX} {a e o : Expr} {es : List Expr} {ma mo : Mx D} {ms : Mx (List D)} {apos cpos pos p : Pos}
def selK' (x : D) (S : Store) : Bool := match x with
  | .ref n => match S[n]? with
    | some (.dic _ _) => true
    | _ => false
  | _ => false
theorem evM_pick {G : Lang} {mt mt1 : D → Store → Res MK} {m : Nm} {rho : En} {S : Store} (h : ∀ x S1, mo rho S = .ok x S1 → mt x S1 = mt1 x S1) : evM G mt mo m ms rho S = evM G mt1 mo m ms rho S := by
  unfold evM
  cases e : mo rho S with
  | ok x S1 => simp only [bind_ok]; rw [h x S1 e]
  | exc c fs S1 => rfl
  | stuck => rfl
theorem evM_pickF {G : Lang} {mt mt1 : D → Store → Res MK} {m : Nm} {rho : En} {S : Store} (h : ∀ x S1, mo rho S = .ok x S1 → mt x S1 = mt1 x S1) : evM G mt mo m ms rho S = evM G mt1 mo m ms rho S := evM_pick h
/-- what x is -/
inductive Rc | own | lst | dic | dit | str | no
def rcOf (x : D) (S : Store) : Rc := match x with
  | .str _ => .str
  | .ref n => match S[n]? with
    | some (.lst _) => .lst
    | some (.dic _ _) => .dic
    | some (.dit _) => .dit
    | some (.ins _ _) => .own
    | _ => .no
  | _ => .no
theorem meth_own {G : Lang} {m : Nm} {x : D} {S : Store} (h : rcOf x S = .own ∨ rcOf x S = .no) : methOf G m x S = ownM G m x S := by
  rw [ownM_eq]
  unfold methOf
  unfold rcOf at h
  cases x with
  | str z => rcases h with h | h <;> cases h
  | ref n =>
    dsimp only at h ⊢
    cases e : S[n]? with
    | none => rfl
    | some ob => rw [e] at h; cases ob <;> first | rfl | (rcases h with h | h <;> cases h)
  | _ => rfl
theorem meth_lst {G : Lang} {m : Nm} {x : D} {S : Store} (h : rcOf x S = .lst) : methOf G m x S = (if m ∈ lstMs then mtS selL .lst x S else ownM G m x S) := by
  rw [ownM_eq]
  unfold methOf mtS selL
  unfold rcOf at h
  cases x with
  | ref n =>
    dsimp only at h ⊢
    split at h <;> first | (cases h; done) | skip
    rename_i e
    by_cases hm : m ∈ lstMs
    · simp [hm, e, hasM]
    · simp [hm, e, hasM]
  | _ => cases h
theorem meth_dic {G : Lang} {m : Nm} {x : D} {S : Store} (h : rcOf x S = .dic) : methOf G m x S = (if m ∈ dicMs then mtS selK .dic x S else ownM G m x S) := by
  rw [ownM_eq]
  unfold methOf mtS selK
  unfold rcOf at h
  cases x with
  | ref n =>
    dsimp only at h ⊢
    split at h <;> first | (cases h; done) | skip
    rename_i e
    by_cases hm : m ∈ dicMs
    · simp [hm, e, hasM]
    · simp [hm, e, hasM]
  | _ => cases h
theorem meth_dit {G : Lang} {m : Nm} {x : D} {S : Store} (h : rcOf x S = .dit) : methOf G m x S = (if m ∈ ditMs then mtS selR .dic x S else ownM G m x S) := by
  rw [ownM_eq]
  unfold methOf mtS selR
  unfold rcOf at h
  cases x with
  | ref n =>
    dsimp only at h ⊢
    split at h <;> first | (cases h; done) | skip
    rename_i e
    by_cases hm : m ∈ ditMs
    · simp [hm, e, hasM]
    · simp [hm, e, hasM]
  | _ => cases h
theorem meth_str {G : Lang} {m : Nm} {x : D} {S : Store} (h : rcOf x S = .str) : methOf G m x S = ownM G m x S := by
  rw [ownM_eq]
  unfold methOf
  unfold rcOf at h
  cases x with
  | str z => rfl
  | ref n =>
    dsimp only at h ⊢
    cases e : S[n]? with
    | none => rfl
    | some ob => rw [e] at h; cases ob <;> cases h
  | _ => cases h
/-- the receiver's kind picks the rule -/
theorem se_rc {G : Lang} {m : Nm} {e' : Expr} (h1 : PE X e' (liftE w W (evM G (ownM G m) mo m ms))) (h2 : PE X e' (liftE w W (evM G (fun x S => if m ∈ lstMs then mtS selL .lst x S else ownM G m x S) mo m ms)))
    (h3 : PE X e' (liftE w W (evM G (fun x S => if m ∈ dicMs then mtS selK .dic x S else ownM G m x S) mo m ms))) (h4 : PE X e' (liftE w W (evM G (fun x S => if m ∈ ditMs then mtS selR .dic x S else ownM G m x S) mo m ms))) :
    PE X e' (liftE w W (evM G (methOf G m) mo m ms)) := by
  refine ⟨fun pins s σ H Q I ⟨rho, S, mu, re, rs, z⟩ => ?_⟩
  cases er : mo rho S with
  | exc c fs S1 =>
    have : evM G (methOf G m) mo m ms rho S = evM G (ownM G m) mo m ms rho S := by unfold evM; rw [er]; rfl
    exact h1.run pins s σ H Q I ⟨rho, S, mu, re, rs, by rw [← this]; exact z⟩
  | stuck =>
    have : evM G (methOf G m) mo m ms rho S = evM G (ownM G m) mo m ms rho S := by unfold evM; rw [er]; rfl
    exact h1.run pins s σ H Q I ⟨rho, S, mu, re, rs, by rw [← this]; exact z⟩
  | ok x S1 =>
    cases ek : rcOf x S1 with
    | own => exact h1.run pins s σ H Q I ⟨rho, S, mu, re, rs, by rw [← evM_pick (mt := methOf G m) fun x' S' z => by rw [er] at z; cases z; exact meth_own (.inl ek)]; exact z⟩
    | no => exact h1.run pins s σ H Q I ⟨rho, S, mu, re, rs, by rw [← evM_pick (mt := methOf G m) fun x' S' z => by rw [er] at z; cases z; exact meth_own (.inr ek)]; exact z⟩
    | str => exact h1.run pins s σ H Q I ⟨rho, S, mu, re, rs, by rw [← evM_pick (mt := methOf G m) fun x' S' z => by rw [er] at z; cases z; exact meth_str ek]; exact z⟩
    | lst => exact h2.run pins s σ H Q I ⟨rho, S, mu, re, rs, by rw [← evM_pick (mt := methOf G m) fun x' S' z => by rw [er] at z; cases z; exact meth_lst ek]; exact z⟩
    | dic => exact h3.run pins s σ H Q I ⟨rho, S, mu, re, rs, by rw [← evM_pick (mt := methOf G m) fun x' S' z => by rw [er] at z; cases z; exact meth_dic ek]; exact z⟩
    | dit => exact h4.run pins s σ H Q I ⟨rho, S, mu, re, rs, by rw [← evM_pick (mt := methOf G m) fun x' S' z => by rw [er] at z; cases z; exact meth_dit ek]; exact z⟩
/-- a rule for methods over data that asks the receiver's kind itself -/
theorem ml_kind {f g : D → List D → Store → Res D} {r : V → List V → Hp → VK → Prop} {sel : D → Store → Bool} (h : MtL w g r) (hfg : ∀ d ds S, f d ds S = g d ds S ∨ f d ds S = .stuck) : MtL w f r := by
  intro W σ H mu S d ds v vs Q rs rd rds z
  rcases hfg d ds S with q | q
  · rw [q] at z; exact h W σ H mu S d ds v vs Q rs rd rds z
  · rw [q] at z; exact z.elim
theorem ifs_eq {α : Type} {b : Bool} {x y : α} (h : b = true) : (fun (_ : Unit) => if b = true then x else y) = fun _ => x := by simp [h]
theorem ml_getA {G : Lang} {K : PySem.W.Frag} : MtL w (fun d ds S => methD G mGet .dic d ds S) (fun x xs H Q => rGetK K x xs H Q ∨ rGetR w x xs H Q) := by
  intro W σ H mu S d ds v vs Q rs rd rds z
  cases rd <;> try (exact z.elim)
  rename_i n a hm
  have z : Post w (RelD w) W σ H mu (dicM mGet n ds S) Q := z
  cases e : S[n]? with
  | none => unfold dicM at z; rw [e] at z; exact z.elim
  | some ob =>
    cases ob with
    | dic lk kvs => exact .inl (ml_getK (G := G) W σ H mu S (.ref n) ds _ vs Q rs (.ref hm) rds (by dsimp only; rw [e]; exact z))
    | dit kvs => exact .inr (ml_getR (G := G) W σ H mu S (.ref n) ds _ vs Q rs (.ref hm) rds (by dsimp only; rw [e]; exact z))
    | _ => unfold dicM at z; rw [e] at z; exact z.elim
theorem ml_popA {G : Lang} : MtL w (fun d ds S => methD G mPop .dic d ds S) rPopK := by
  intro W σ H mu S d ds v vs Q rs rd rds z
  cases rd <;> try (exact z.elim)
  rename_i n a hm
  have z : Post w (RelD w) W σ H mu (dicM mPop n ds S) Q := z
  cases e : S[n]? with
  | none => unfold dicM at z; rw [e] at z; exact z.elim
  | some ob =>
    cases ob with
    | dic lk kvs => exact ml_popK (G := G) W σ H mu S (.ref n) ds _ vs Q rs (.ref hm) rds (by dsimp only; rw [e]; exact z)
    | dit kvs => unfold dicM at z; rw [e] at z; dsimp only at z; rw [if_neg (by decide)] at z; exact z.elim
    | _ => unfold dicM at z; rw [e] at z; exact z.elim
theorem se_methA {G : Lang} {k : Nat} {m : Nm} (hP : X.prog = w.P) (hW : X.w = w.wd) (hK : X.K = w.K) (CM : ClsM w X G k) (hr : Room k X.A) (tk : Takes X W) (ho : PE X o (liftE w W mo)) (ha : PA X (e :: es) (liftA w W ms)) (hb : plainBase o = true) (hns : (e :: es).all notStar = true) (hl : (apos.endLine == cpos.line) = true) (hn : (e :: es).length < 30) :
    PE X (.Call (.Attribute o (S2 m) apos) (e :: es) [] cpos) (liftE w W (evM G (methOf G m) mo m ms)) := by
  have hu : X.A.units + 200 < cLine := by have := hr.un; omega
  have own := se_meth (m := m) CM hr tk ho ha hb hns hl hn
  refine se_rc own ?_ ?_ ?_
  · by_cases hm : m ∈ lstMs
    · simp only [hm, if_true]
      have hm' : m = mAppend ∨ m = mExtend := by simpa [lstMs] using hm
      rcases hm' with rfl | rfl
      · exact se_bm PySem.F.plainAttrs_list (show Slot "list" (S2 mAppend) "list.append" from PySem.F.slot_list_append) PySem.F.type_list_append mt_append ho ha tyL_is selL_is ml_append hb hns hl hn
      · exact se_bm PySem.F.plainAttrs_list (show Slot "list" (S2 mExtend) "list.extend" from PySem.F.slot_list_extend) PySem.F.type_list_extend mt_extend ho ha tyL_is selL_is ml_extend hb hns hl hn
    · simp only [hm, if_false]; exact own
  · by_cases hm : m ∈ dicMs
    · simp only [hm, if_true]
      have hm' : m = mGet ∨ m = mPop := by simpa [dicMs] using hm
      rcases hm' with rfl | rfl
      · exact se_bm PySem.F.plainAttrs_dict (show Slot "dict" (S2 mGet) "dict.get" from PySem.F.slot_dict_get) PySem.F.type_dict_get (MtR.or (mt_getK (K := X.K) (by omega)) (mt_getR hP hW hK (by omega))) ho ha tyK_is selK_is (ml_getA (G := G)) hb hns hl hn
      · exact se_bm PySem.F.plainAttrs_dict (show Slot "dict" (S2 mPop) "dict.pop" from PySem.F.slot_dict_pop) PySem.F.type_dict_pop mt_popK ho ha tyK_is selK_is (ml_popA (G := G)) hb hns hl hn
    · simp only [hm, if_false]; exact own
  · by_cases hm : m ∈ ditMs
    · simp only [hm, if_true]
      have hm' : m = mGet := by simpa [ditMs] using hm
      subst hm'
      exact se_bm PySem.F.plainAttrs_dict (show Slot "dict" (S2 mGet) "dict.get" from PySem.F.slot_dict_get) PySem.F.type_dict_get (MtR.or (mt_getK (K := X.K) (by omega)) (mt_getR hP hW hK (by omega))) ho ha (tyR_is hP hW hK) selR_is (ml_getA (G := G)) hb hns hl hn
    · simp only [hm, if_false]; exact own
end
end Bs

set_option Elab.async false
set_option linter.all false
set_option maxRecDepth 100000
set_option maxHeartbeats 1000000
/-! Bs15: built-in functions by their names; isinstance; tests. -/
namespace Bs
open PySem PySem.Spec L2

section
variable {w : Wd} {X : Cx} {W : WX} {a b e o : Expr} {es : List Expr} {ma mb : Mx D} {ms : Mx (List D)} {apos cpos pos p p2 : Pos}
def biNm : Bi → Str
  | .len => "len"
  | .abs => "abs"
  | .int => "int"
  | .str => "str"
  | .ord => "ord"
  | .list => "list"
  | .tuple => "tuple"
  | .dict => "dict"
  | .max => "max"
  | .min => "min"
  | .sorted => "sorted"
  | .all => "all"
  | .set => "set"
def biOk : Bi → Bool
  | .str => false
  | .set => false
  | _ => true
theorem bl_intA : BiL w (biD .int) (fun xs H Q => (∃ i, xs = [.int i] ∧ Q (.int i) H) ∨ ∃ k, xs = [.bl k] ∧ Q (.int (if k then 1 else 0)) H) := by
  intro W σ H mu S ds vs Q rs rd h
  refine bl_int W σ H mu S ds vs Q rs rd ?_
  match ds, h with
  | [], h => exact h.elim
  | [.int i], h => exact h
  | [.bl k], h => exact h
  | [.non], h => exact h.elim
  | [.str x], h => exact h.elim
  | [.tup x], h => exact h.elim
  | [.ref x], h => exact h.elim
  | [.scr x], h => exact h.elim
  | d :: d2 :: r, h => exact (by cases d <;> exact h.elim)
theorem se_bi {t : Bi} (hc : X.calm = true) (hK : X.K = w.K) (hb : biOk t = true) (hg : Gl X (biNm t)) (hm : X.mg (biNm t) = none) (hns : (e :: es).all notStar = true) (ha : PA X (e :: es) (liftA w W ms)) :
    PE X (.Call (.Name (biNm t) p) (e :: es) [] pos) (liftE w W (ev1 ms (biD t))) := by
  cases t with
  | len => exact se_callB (CallR.or call_len call_lenR) (bl_len hK) hg hm rfl hns ha (by decide) (by decide)
  | abs => exact se_callB call_abs bl_abs hg hm rfl hns ha (by decide) (by decide)
  | int => exact se_callTy call_int1 bl_intA hg hm rfl hns ha (by decide) (by decide)
  | str => cases hb
  | ord => exact se_callB call_ord bl_ord hg hm rfl hns ha (by decide) (by decide)
  | list => exact se_callTy (CallR.or call_list_of (call_listD hc)) (bl_list hK) hg hm rfl hns ha (by decide) (by decide)
  | tuple => exact se_callTy call_tuple_of (bl_tuple hK) hg hm rfl hns ha (by decide) (by decide)
  | dict => exact se_callTy call_dictD bl_dict hg hm rfl hns ha (by decide) (by decide)
  | max => exact se_callB (CallR.or (call_max2 hc) (CallR.or (call_max2S hc) (cr_max hc))) (bl_max hK) hg hm rfl hns ha (by decide) (by decide)
  | min => exact se_callB (CallR.or (call_min2 hc) (CallR.or (call_min2S hc) (cr_min hc))) (bl_min hK) hg hm rfl hns ha (by decide) (by decide)
  | sorted => exact se_callB (CallR.or cr_sortedS (CallR.or cr_sorted (CallR.or (call_sortedD hc) (call_sortedDI hc)))) (bl_sorted hK) hg hm rfl hns ha (by decide) (by decide)
  | all => exact se_callB (cr_all hc) (bl_all hK) hg hm rfl hns ha (by decide) (by decide)
  | set => cases hb
def tyNm : Ty → Str
  | .str => "str"
  | .int => "int"
  | .bool => "bool"
  | .tuple => "tuple"
  | .list => "list"
theorem se_isi {t : Ty} (hK : X.K = w.K) (hg : Gl X "isinstance") (hm : X.mg "isinstance" = none) (hg2 : Gl X (tyNm t)) (hm2 : X.mg (tyNm t) = none) (ha : PE X a (liftE w W ma)) (na : notStar a = true) :
    PE X (.Call (.Name "isinstance" p) [a, .Name (tyNm t) p2] [] pos) (liftE w W (ev1 ma (isiD t))) := by
  have ht : PE X (.Name (tyNm t) p2) (tC (.ty (tyName t))) := ⟨fun pins s σ H Q I h => by
    cases t <;> exact ld_blt I hg2 hm2 rfl ⟨.ty _, H, I, rfl, h⟩ (by decide) (by decide)⟩
  refine PE.imp (pe_callB call_isi hg hm rfl (pa_cons ha (pa_cons ht pa_nil rfl) (star_cons na)) (by decide) (by decide) (star_cons na) rfl) fun σ H Q z => ?_
  have z := lift_ev1 (RA := RelD w) z
  refine z.imp fun v H1 hh => ?_
  obtain ⟨d, S1, mu1, rs, rd, q⟩ := hh
  exact hK ▸ isi_ok rs rd q

/-! ### tests -/
def plainT : Expr → Bool
  | .UnaryOp .Not _ _ => false
  | .BoolOp .. => false
  | .IfExp .. => false
  | .Compare .. => false
  | _ => true
theorem isTrue_pl (h : plainT a = true) : ∀ whole, isTrue a X.env whole = (do let v ← whole; standAt a.pos; holding [v] (truthy v)) := by
  intro whole
  cases a with
  | UnaryOp op x pos => cases op <;> first | rfl | cases h
  | BoolOp op values pos => cases h
  | IfExp t b o pos => cases h
  | Compare l ops cs pos => cases h
  | _ => rfl
theorem st_isn {j pos'} (ha : PE X a (liftE w W ma)) : PT X (.Compare a [.Is] [.Constant .none j pos'] pos) (liftT w W (ev1 (ev1 ma fun x S => .ok (.bl (decide (x = .non))) S) truD)) := by
  refine PT.imp (pt_cmp (pc_isN ha)) fun σ H Q z => ?_
  obtain ⟨rho, S, mu, re, rs, z⟩ := z
  refine ⟨rho, S, mu, re, rs, ?_⟩
  unfold ev1 at z
  cases e : ma rho S with
  | ok d S1 =>
    rw [e] at z
    intro v H' mu' p rs' rd k
    have e : decide (d = .non) = decide (v = .non) := by cases rd <;> rfl
    exact ⟨_, rfl, by rw [← e]; exact z _ _ mu' p rs' rfl k⟩
  | exc c fs S1 => rw [e] at z; exact z
  | stuck => rw [e] at z; exact z
theorem st_isnn {j pos'} (ha : PE X a (liftE w W ma)) : PT X (.Compare a [.IsNot] [.Constant .none j pos'] pos) (liftT w W (ev1 (ev1 ma fun x S => .ok (.bl (!decide (x = .non))) S) truD)) := by
  refine PT.imp (pt_cmp (pc_notN ha)) fun σ H Q z => ?_
  obtain ⟨rho, S, mu, re, rs, z⟩ := z
  refine ⟨rho, S, mu, re, rs, ?_⟩
  unfold ev1 at z
  cases e : ma rho S with
  | ok d S1 =>
    rw [e] at z
    intro v H' mu' p rs' rd k
    have e : decide (d = .non) = decide (v = .non) := by cases rd <;> rfl
    exact ⟨_, rfl, by rw [← e]; exact z _ _ mu' p rs' rfl k⟩
  | exc c fs S1 => rw [e] at z; exact z
  | stuck => rw [e] at z; exact z
theorem tru_det {x : D} {S : Store} : truD x S = .stuck ∨ ∃ b, truD x S = .ok b S := by
  cases x with
  | ref n =>
    unfold truD
    dsimp only
    split
    · exact .inr ⟨_, rfl⟩
    · exact .inl rfl
  | _ => exact .inr ⟨_, rfl⟩
theorem tru_and {G : Lang} {e : IE} {es : IEs} (rho : En) (S : Store) : ev1 (evAnd G (.cons e es)) truD rho S = (if es.isNil = true then ev1 (evE G e) truD rho S else andT (ev1 (evE G e) truD) (ev1 (evAnd G es) truD) rho S) := by
  show ((evE G e rho S).bind fun x S => if es.isNil = true then .ok x S else (truD x S).bind fun b S => if b = true then evAnd G es rho S else .ok x S).bind truD = _
  unfold andT ev1
  rw [Res.bind_assoc]
  by_cases h : es.isNil = true
  · simp only [h, if_true, bind_ok]
  · simp only [h, if_false, Bool.false_eq_true]
    rw [Res.bind_assoc]
    congr 1
    funext x S1
    rcases tru_det (x := x) (S := S1) with q | ⟨b, q⟩
    · rw [q]; rfl
    · rw [q]
      cases b with
      | true => rfl
      | false => simp only [bind_ok, Bool.false_eq_true, if_false]; exact q
theorem tru_or {G : Lang} {e : IE} {es : IEs} (rho : En) (S : Store) : ev1 (evOr G (.cons e es)) truD rho S = (if es.isNil = true then ev1 (evE G e) truD rho S else orT (ev1 (evE G e) truD) (ev1 (evOr G es) truD) rho S) := by
  show ((evE G e rho S).bind fun x S => if es.isNil = true then .ok x S else (truD x S).bind fun b S => if b = true then .ok x S else evOr G es rho S).bind truD = _
  unfold orT ev1
  rw [Res.bind_assoc]
  by_cases h : es.isNil = true
  · simp only [h, if_true, bind_ok]
  · simp only [h, if_false, Bool.false_eq_true]
    rw [Res.bind_assoc]
    congr 1
    funext x S1
    rcases tru_det (x := x) (S := S1) with q | ⟨b, q⟩
    · rw [q]; rfl
    · rw [q]
      cases b with
      | true => simp only [bind_ok, if_true]; exact q
      | false => rfl
end
end Bs

set_option Elab.async false
set_option linter.all false
set_option maxRecDepth 100000
set_option maxHeartbeats 2000000
/-! Bs16: the checker of terms against the text: expressions. -/
namespace Bs
open PySem PySem.Spec L2

/-- what is known of a def's names -/
structure Cst where
  N : List Str
  ns : List (Str × NameKind)
  fn : Str → Bool
  fnm : List Str
  cnm : List Str
  blt : List Str
  gl : List (Str × D)
def okNm (x : Str) : Bool := !(x == ("__debug__" : Str)) && !(x == ("__classdict__" : Str))
def visB (C : Cst) (x : Str) : Bool := match C.ns.lookup x with
  | some .local => true
  | some .cell => true
  | some .free => true
  | _ => false
def locB (C : Cst) (x : Str) : Bool := match C.ns.lookup x with
  | some .local => true
  | some .cell => C.fn x
  | _ => false
def glB (C : Cst) (x : Str) : Bool := match C.ns.lookup x with
  | some .globalImplicit => true
  | _ => false
def bltB (C : Cst) (x : Str) : Bool := glB C x && decide (x ∈ C.blt)
def okStrB (x : List Nat) : Bool := decide (x.length ≤ sizeLine) && x.all fun c => decide (c < 0x110000)
def cstB : D → Const → Bool
  | .non, .none => true
  | .bl b, .bool c => b == c
  | .int i, .int j => decide (i = j)
  | .str z, .str x => decide (x = S2 z) && okStrB z
  | _, _ => false
def bopOf : Bop → Operator
  | .add => .Add
  | .sub => .Sub
  | .mul => .Mult
  | .fdiv => .FloorDiv
  | .mod => .Mod
  | .pow => .Pow
def notSet : Expr → Bool
  | .Set .. => false
  | _ => true
def namesB (C : Cst) : List Nat → List Expr → Bool
  | [], [] => true
  | i :: is, e :: es => (match e with
    | .Name x _ => decide (C.N[i]? = some x) && locB C x
    | _ => false) && namesB C is es
  | _, _ => false
def tgB (C : Cst) : Tg → Expr → Bool
  | .name i, e => match e with
    | .Name x _ => decide (C.N[i]? = some x) && locB C x
    | _ => false
  | .tup is, e => match e with
    | .Tuple es _ _ => namesB C is es
    | _ => false
def relNs (ns : List (Str × NameKind)) (names : List (Str × NameKind)) : List (Str × NameKind) := names.map fun (n, k) => if (k == .free && ns.lookup n == some .cell) then (n, .cell) else (n, k)
def inner (C : Cst) (sc : Scope) : Cst := { C with ns := relNs C.ns sc.names, fn := fun x => sc.names.lookup x == some .cell }
def ownP (C : Cst) (own : List Nat) : List (Str × Nat) := own.map fun i => ((C.N[i]?).getD "", i)
def blkB (C : Cst) (sc : Scope) (own : List Nat) : Bool :=
  (sc.kind == .function) && (sc.names.all fun y => decide (sc.names.lookup y.1 = some y.2)) && (own.all fun i => decide (i < C.N.length)) &&
  (sc.names.all fun y => match y.2 with
    | .free => (match C.ns.lookup y.1 with
      | some .cell => true
      | some .free => true
      | _ => false)
    | .local => decide (y.1 ∈ (ownP C own).map (·.1)) || decide (y.1 ∉ C.N)
    | .cell => decide (y.1 ∈ (ownP C own).map (·.1)) || decide (y.1 ∉ C.N)
    | _ => true)
/-! a term whose test is known -/
mutual
def tb : IE → Bool
  | .ite _ _ _ => false
  | .chain _ _ _ _ _ => false
  | .not_ a => tb a
  | .and_ es => tbs es
  | .or_ es => tbs es
  | _ => true
def tbs : IEs → Bool
  | .nil => true
  | .cons e es => tb e && tbs es
end
mutual
def chkE : IE → Cst → Expr → Bool
  | .cst d, _, e => match e with
    | .Constant c _ _ => cstB d c
    | _ => false
  | .var i, C, e => match e with
    | .Name x _ => decide (C.N[i]? = some x) && visB C x && okNm x
    | _ => false
  | .glb n d, C, e => match e with
    | .Name x _ => glB C x && decide ((x, d) ∈ C.gl) && okNm x
    | _ => false
  | .bin op a b, C, e => match e with
    | .BinOp x o y _ => decide (o = bopOf op) && chkE a C x && chkE b C y
    | _ => false
  | .neg a, C, e => match e with
    | .UnaryOp .USub x _ => chkE a C x
    | _ => false
  | .not_ a, C, e => match e with
    | .UnaryOp .Not x _ => chkE a C x
    | _ => false
  | .cmp op a b, C, e => match e with
    | .Compare x [o] [y] _ => decide (o = copOf op) && chkE a C x && chkE b C y && !behindInMarks (copOf op) y
    | _ => false
  | .isn a, C, e => match e with
    | .Compare x [.Is] [.Constant .none _ _] _ => chkE a C x
    | _ => false
  | .isnn a, C, e => match e with
    | .Compare x [.IsNot] [.Constant .none _ _] _ => chkE a C x
    | _ => false
  | .and_ es, C, e => match e with
    | .BoolOp .And l _ => !l.isEmpty && chkEs es C l
    | _ => false
  | .or_ es, C, e => match e with
    | .BoolOp .Or l _ => !l.isEmpty && chkEs es C l
    | _ => false
  | .ite c a b, C, e => match e with
    | .IfExp x y z _ => tb c && chkE c C x && chkE a C y && chkE b C z
    | _ => false
  | .tup es, C, e => match e with
    | .Tuple l _ _ => chkEs es C l
    | _ => false
  | .lst es, C, e => match e with
    | .List l _ => chkEs es C l
    | _ => false
  | .dict0 t, _, e => match e with
    | .Dict [] [] _ => true
    | _ => false
  | .disp ps, C, e => match e with
    | .Dict ks vs _ => chkPs ps C ks vs && ks.all (·.isSome) && decide (ks.length = vs.length) && !ks.isEmpty && decide (ks.length ≤ 15)
    | _ => false
  | .idx a b, C, e => match e with
    | .Subscript x y _ => chkE a C x && chkE b C y && notSl y
    | _ => false
  | .slc a lo hi, C, e => match e with
    | .Subscript x (.Slice l h none _) _ => chkE a C x && chkO lo C l && chkO hi C h
    | _ => false
  | .rev a, C, e => match e with
    | .Subscript x (.Slice none none (some (.UnaryOp .USub (.Constant (.int i) _ _) _)) _) _ => decide (i = 1) && chkE a C x
    | _ => false
  | .attr a f, C, e => match e with
    | .Attribute x g _ => decide (g = S2 f) && chkE a C x && plainBase x
    | _ => false
  | .call f args, C, e => match e with
    | .Call (.Name x _) l [] _ => decide (C.fnm[f]? = some x) && glB C x && okNm x && chkEs args C l
    | _ => false
  | .make c args, C, e => match e with
    | .Call (.Name x _) l [] _ => decide (C.cnm[c]? = some x) && glB C x && okNm x && chkEs args C l
    | _ => false
  | .meth o m args, C, e => match e with
    | .Call (.Attribute x f apos) l [] pos => decide (f = S2 m) && chkE o C x && chkEs args C l && plainBase x && (apos.endLine == pos.line) && decide (l.length < 30) && !l.isEmpty
    | _ => false
  | .bi b args, C, e => match e with
    | .Call (.Name x _) l [] _ => decide (x = biNm b) && biOk b && bltB C x && chkEs args C l && !l.isEmpty
    | _ => false
  | .isi a t, C, e => match e with
    | .Call (.Name x _) [y, .Name z _] [] _ => decide (x = "isinstance") && bltB C x && decide (z = tyNm t) && bltB C z && chkE a C y && notStar y
    | _ => false
  | .comp elt tg it cond own, C, e => match e with
    | .ListComp el [⟨t, i, ifs, as⟩] sc _ => decide (as = 0) && chkT it C i && tgB (inner C sc) tg t && chkE elt (inner C sc) el && chkC cond (inner C sc) ifs && blkB C sc own && (tgIs tg).all (fun i => decide (i ∈ own)) && notSet i
    | _ => false
  | .isx _ _, _, _ => false
  | .sortk _ _, _, _ => false
  | .fstr _, _, _ => false
  | .gin _ _ _, _, _ => false
  | .gget _ _, _, _ => false
  | .chain _ _ _ _ _, _, _ => false
def chkEs : IEs → Cst → List Expr → Bool
  | .nil, _, l => l.isEmpty
  | .cons e es, C, l => match l with
    | x :: r => chkE e C x && notStar x && chkEs es C r
    | [] => false
def chkPs : IPs → Cst → List (Option Expr) → List Expr → Bool
  | .nil, _, ks, vs => ks.isEmpty && vs.isEmpty
  | .cons k v r, C, ks, vs => match ks, vs with
    | some x :: ks, y :: vs => chkE k C x && chkE v C y && chkPs r C ks vs
    | _, _ => false
def chkO : IO → Cst → Option Expr → Bool
  | .none, _, e => e.isNone
  | .some a, C, e => match e with
    | some x => chkE a C x
    | none => false
def chkC : IO → Cst → List Expr → Bool
  | .none, _, l => l.isEmpty
  | .some a, C, l => match l with
    | [x] => chkE a C x && tb a
    | _ => false
def chkT : IT → Cst → Expr → Bool
  | .exp a, C, e => chkE a C e
  | .range1 a, C, e => match e with
    | .Call (.Name x _) [y] [] _ => decide (x = "range") && bltB C x && chkE a C y && notStar y
    | _ => false
  | .range2 a b, C, e => match e with
    | .Call (.Name x _) [y, z] [] _ => decide (x = "range") && bltB C x && chkE a C y && notStar y && chkE b C z && notStar z
    | _ => false
  | .values _, _, _ => false
  | .enum _, _, _ => false
  | .zip _ _, _, _ => false
end
end Bs

set_option Elab.async false
set_option linter.all false
set_option maxRecDepth 100000
set_option maxHeartbeats 4000000
/-! Bs17: the checker is right: expressions. -/
namespace Bs
open PySem PySem.Spec L2

/-- the context of a def's body -/
structure Good (C : Cst) (G : Lang) (w : Wd) (k : Nat) (X : Cx) (W : WX) : Prop where
  hP : X.prog = w.P
  hW : X.w = w.wd
  hK : X.K = w.K
  N : X.N = C.N
  nd : X.N.Nodup
  ns : X.env.scope.names = C.ns
  kind : X.env.scope.kind = .function
  calm : X.calm = true
  room : Room (k + 1) X.A
  tk : Takes X W
  po : PassesOwn (model X.prog X.w) X.A X.env X.xe
  fn : ∀ x, C.fn x = true → X.fn x = true
  fns : ∀ i x, C.fnm[i]? = some x → ∃ fa fd ps, X.mg x = some (.ref fa) ∧ FnM w X k (G.call i) fa fd ps
  mks : ∀ c x, C.cnm[c]? = some x → X.mg x = some (.ref (w.cl c)) ∧ PySem.W.keepIn X.K (.ref (w.cl c)) = true
  cls : ClsM w X G k
  blt : ∀ x ∈ C.blt, X.mg x = none
  gl : ∀ x d, (x, d) ∈ C.gl → ∃ u v, X.mg x = some u ∧ RelV v u ∧ ∀ H mu, RelD w H mu d v

section
variable {C : Cst} {G : Lang} {w : Wd} {k : Nat} {X : Cx} {W : WX} {x : Str}
theorem Good.room' (g : Good C G w k X W) : Room k X.A := g.room.mono (Nat.le_succ _)
theorem Good.units (g : Good C G w k X W) : X.A.units + 100 < cLine := by have := g.room.un; omega
theorem okNm_db (h : okNm x = true) : (x == ("__debug__" : Str)) = false := by
  unfold okNm at h
  rw [Bool.and_eq_true] at h
  simpa using h.1
theorem okNm_cd (h : okNm x = true) : (x == ("__classdict__" : Str)) = false := by
  unfold okNm at h
  rw [Bool.and_eq_true] at h
  simpa using h.2
theorem Good.vis (g : Good C G w k X W) (h : visB C x = true) : Vis X.env.scope x := by
  unfold visB at h
  unfold Vis
  rw [g.ns]
  split at h
  · rename_i e; exact .inl e
  · rename_i e; exact .inr (.inl e)
  · rename_i e; exact .inr (.inr e)
  · cases h
theorem Good.loc (g : Good C G w k X W) (h : locB C x = true) : L2.Loc X.env.scope x ∧ (X.fn x = true ∨ X.env.scope.names.lookup x = some .local) := by
  unfold locB at h
  unfold L2.Loc
  rw [g.ns]
  split at h
  · rename_i e; exact ⟨.inl e, .inr e⟩
  · rename_i e; exact ⟨.inr e, .inl (g.fn _ h)⟩
  · cases h
theorem Good.glo (g : Good C G w k X W) (h : glB C x = true) : Gl X x := by
  unfold glB at h
  show X.env.scope.names.lookup x = _
  rw [g.ns]
  split at h
  · rename_i e; exact e
  · cases h
theorem Good.bltin (g : Good C G w k X W) (h : bltB C x = true) : Gl X x ∧ X.mg x = none := by
  unfold bltB at h
  rw [Bool.and_eq_true] at h
  exact ⟨g.glo h.1, g.blt _ (of_decide_eq_true h.2)⟩
theorem okStrB_ok {z : List Nat} (h : okStrB z = true) : okStr z := by
  unfold okStrB at h
  rw [Bool.and_eq_true] at h
  exact ⟨of_decide_eq_true h.1, fun c hc => of_decide_eq_true (List.all_eq_true.mp h.2 c hc)⟩
theorem se_cst {d : D} {c : Const} {j : Nat} {pos : Pos} (h : cstB d c = true) : PE X (.Constant c j pos) (liftE w W (evC d)) := by
  unfold cstB at h
  split at h
  · exact se_non
  · have := eq_of_beq h; subst this; exact se_bl
  · have := of_decide_eq_true h; subst this; exact se_int
  · rw [Bool.and_eq_true] at h
    have := of_decide_eq_true h.1
    subst this
    exact se_str (okStrB_ok h.2)
  · cases h
theorem FnM.blk {m : List D → Store → Res D} {f : Addr} {fd : FuncData} {ps : List Str} {s : Shared} {H : Hp} {sc : Scope} {ce : PySem.Env} {fp : List Addr} (F : FnM w X k m f fd ps) : FnM w (X.blk s H sc ce fp) k m f fd ps := ⟨F.ok, F.bind, F.kp, F.len⟩
theorem ClsM.blk {s : Shared} {H : Hp} {sc : Scope} {ce : PySem.Env} {fp : List Addr} (F : ClsM w X G k) : ClsM w (X.blk s H sc ce fp) G k :=
  ⟨F.cls, fun c m f e => let ⟨fa, fd, ps, a, b⟩ := F.meth c m f e; ⟨fa, fd, ps, a, b.blk⟩, F.fld, fun c f e => let ⟨fa, fd, ps, a, b⟩ := F.mkr c f e; ⟨fa, fd, ps, a, b.blk⟩⟩
theorem Good.inner (g : Good C G w k X W) {sc : Scope} (hs : sc.kind = .function) (s : Shared) (H : Hp) (Ca : Addr) (cl : List (Str × Addr)) (fp : List Addr) : Good (Bs.inner C sc) G w k (X.blk s H sc (compEnvC sc cl Ca X.env) fp) WF where
  hP := g.hP
  hW := g.hW
  hK := g.hK
  N := g.N
  nd := g.nd
  ns := by
    show (relabel sc X.env).names = relNs C.ns sc.names
    unfold relabel relNs
    show sc.names.map _ = sc.names.map _
    have hk : X.env.kindOf = fun n => List.lookup n C.ns := by funext n; unfold Env.kindOf; rw [g.ns]
    rw [hk, g.kind]
    congr 1
    funext ⟨n, q⟩
    simp
  kind := hs
  calm := g.calm
  room := g.room
  tk := fun u s' z => by
    obtain ⟨a, B, sI, pins, σ, H', cls, d, e, I, nb, up, sky, na, os, ag, q⟩ := z
    exact q.elim
  po := PassesOwn.never
  fn := fun y h => h
  fns := fun i y h => let ⟨fa, fd, ps, a, b⟩ := g.fns i y h; ⟨fa, fd, ps, a, b.blk⟩
  mks := g.mks
  cls := g.cls.blk
  blt := g.blt
  gl := g.gl
theorem notSl_ix {b : Expr} (h : notSl b = true) : PlainIx b := fun o k => by
  cases b <;> first | rfl | cases h
theorem fold_not {e : Expr} {env : PySem.Env} (h : notSet e = true) : ∀ x, foldedSetIterable e env x = pure x := fun x => by
  cases e <;> first | rfl | cases h
theorem pg_names (g : Good C G w k X W) : ∀ {is : List Nat} {es : List Expr}, namesB C is es = true → PGs X es (gNames is) ∧ (assignEach es X.env).length = is.length ∧ (assignEach es X.env).findIdx? (·.1) = none
  | [], [], _ => ⟨pgs_nil, rfl, rfl⟩
  | [], _ :: _, h => by cases h
  | _ :: _, [], h => by cases h
  | i :: is, e :: es, h => by
    unfold namesB at h
    rw [Bool.and_eq_true] at h
    obtain ⟨h1, h2⟩ := h
    obtain ⟨q1, q2, q3⟩ := pg_names g h2
    split at h1
    · rename_i x p
      rw [Bool.and_eq_true] at h1
      obtain ⟨l1, l2⟩ := g.loc h1.2
      refine ⟨pgs_cons (pg_name g.nd (by rw [g.N]; exact of_decide_eq_true h1.1) l1 l2) q1 rfl, ?_, ?_⟩
      · show (assignEach es X.env).length + 1 = _
        rw [q2]; rfl
      · show List.findIdx? _ ((false, _) :: assignEach es X.env) = none
        rw [List.findIdx?_cons]
        simp [q3]
    · cases h1
def ggOf (K : PySem.W.Frag) : Tg → TG
  | .name i => gName i
  | .tup is => gTup K is.length (gNames is)
theorem tgr_ok (T : Tg) : TgR w (ggOf w.K T) T := by
  cases T with
  | name i => exact tg_name
  | tup is => exact tg_tup rfl
theorem tg_ok (g : Good C G w k X W) {T : Tg} {e : Expr} (h : tgB C T e = true) : PG X e (ggOf w.K T) := by
  cases T with
  | name i =>
    unfold tgB at h
    dsimp only at h
    split at h
    · rename_i x p
      rw [Bool.and_eq_true] at h
      obtain ⟨l1, l2⟩ := g.loc h.2
      exact pg_name g.nd (by rw [g.N]; exact of_decide_eq_true h.1) l1 l2
    · cases h
  | tup is =>
    unfold tgB at h
    dsimp only at h
    split at h
    · obtain ⟨q1, q2, q3⟩ := pg_names g h
      exact g.hK ▸ pg_tup g.calm q1 q2 q3
    · cases h
theorem own_fst (own : List Nat) : (ownP C own).map (·.2) = own := by
  unfold ownP
  rw [List.map_map]
  exact List.map_id' own
theorem blk_ok (g : Good C G w k X W) {sc : Scope} {own : List Nat} (h : blkB C sc own = true) : BlkOk X.N X.env.scope sc (ownP C own) := by
  unfold blkB at h
  simp only [Bool.and_eq_true] at h
  obtain ⟨⟨⟨h1, h2⟩, h3⟩, h4⟩ := h
  refine ⟨eq_of_beq h1, fun y hy => of_decide_eq_true (List.all_eq_true.mp h2 y hy), fun p hp => ?_, fun y hy e => ?_, fun y hy e => ?_⟩
  · unfold ownP at hp
    obtain ⟨i, hi, rfl⟩ := List.mem_map.mp hp
    have hl := of_decide_eq_true (List.all_eq_true.mp h3 i hi)
    rw [g.N, List.getElem?_eq_getElem hl]
    rfl
  · have q := List.all_eq_true.mp h4 y hy
    rw [e] at q
    dsimp only at q
    rw [g.ns]
    split at q
    · rename_i z; exact .inl z
    · rename_i z; exact .inr z
    · cases q
  · have q := List.all_eq_true.mp h4 y hy
    rw [g.N]
    rcases e with e | e <;> rw [e] at q <;> dsimp only at q <;> rw [Bool.or_eq_true] at q <;> rcases q with q | q <;> first | exact .inl (of_decide_eq_true q) | exact .inr (of_decide_eq_true q)
theorem ne_nil {α : Type} {l : List α} (h : (!l.isEmpty) = true) : l ≠ [] := by
  cases l with
  | nil => cases h
  | cons a r => simp
end

section
variable {G : Lang} {w : Wd} {k : Nat}
/-- an expression whose test is plain -/
theorem both {X : Cx} {W : WX} {e : Expr} {m : Mx D} {b : Bool} (hK : X.K = w.K) (h : PE X e (liftE w W m)) (hp : plainT e = true) : PE X e (liftE w W m) ∧ (b = true → PT X e (liftT w W (ev1 m truD))) := ⟨h, fun _ => st_val h hK (isTrue_pl hp)⟩
mutual
theorem sE : ∀ (ie : IE) {C : Cst} {X : Cx} {W : WX} {e : Expr}, Good C G w k X W → chkE ie C e = true → PE X e (liftE w W (evE G ie)) ∧ (tb ie = true → PT X e (liftT w W (ev1 (evE G ie) truD)))
  | .cst d, C, X, W, e, g, h => by
    unfold chkE at h
    split at h
    · exact both g.hK (se_cst h) rfl
    · cases h
  | .var i, C, X, W, e, g, h => by
    unfold chkE at h
    split at h
    · simp only [Bool.and_eq_true] at h
      exact both g.hK (pm_var (by rw [g.N]; exact of_decide_eq_true h.1.1) (g.vis h.1.2) (okNm_db h.2) (okNm_cd h.2)) rfl
    · cases h
  | .glb n d, C, X, W, e, g, h => by
    unfold chkE at h
    split at h
    · simp only [Bool.and_eq_true] at h
      obtain ⟨u, v, h1, h2, h3⟩ := g.gl _ _ (of_decide_eq_true h.1.2)
      exact both g.hK (se_glb (g.glo h.1.1) h1 h2 h3 (okNm_db h.2)) rfl
    · cases h
  | .bin op a b, C, X, W, e, g, h => by
    unfold chkE at h
    split at h
    · simp only [Bool.and_eq_true] at h
      have e1 := of_decide_eq_true h.1.1
      subst e1
      have ha := (sE a g h.1.2).1
      have hb := (sE b g h.2).1
      refine both g.hK ?_ rfl
      cases op with
      | add => exact se_add ha hb g.hK
      | sub => exact se_sub ha hb
      | mul => exact se_mul ha hb
      | fdiv => exact se_fdiv ha hb
      | mod => exact se_mod ha hb
      | pow => exact se_pow ha hb
    · cases h
  | .neg a, C, X, W, e, g, h => by
    unfold chkE at h
    split at h
    · exact both g.hK (se_neg (sE a g h).1) rfl
    · cases h
  | .not_ a, C, X, W, e, g, h => by
    unfold chkE at h
    split at h
    · obtain ⟨h1, h2⟩ := sE a g h
      refine ⟨se_not h1 g.hK, fun ht => PT.ev (st_not (h2 ht)) fun rho S => ?_⟩
      show (((evE G a rho S).bind truD).bind fun b S => Res.ok (D.bl (!b)) S).bind truD = ((evE G a rho S).bind truD).bind fun b S => .ok (!b) S
      rw [Res.bind_assoc]
      rfl
    · cases h
  | .cmp op a b, C, X, W, e, g, h => by
    unfold chkE at h
    split at h
    · simp only [Bool.and_eq_true] at h
      obtain ⟨⟨⟨h1, h2⟩, h3⟩, h4⟩ := h
      have e1 := of_decide_eq_true h1
      subst e1
      have ha := (sE a g h2).1
      have hb := (sE b g h3).1
      have hm := (Bool.not_eq_true' _).mp h4
      exact ⟨pe_cmp (sc_cmp g.hP g.hW g.hK g.units ha hb op) hm, fun _ => st_cmp g.hP g.hW g.hK g.units ha hb op hm⟩
    · cases h
  | .isn a, C, X, W, e, g, h => by
    unfold chkE at h
    split at h
    · have ha := (sE a g h).1
      exact ⟨se_isn ha, fun _ => st_isn ha⟩
    · cases h
  | .isnn a, C, X, W, e, g, h => by
    unfold chkE at h
    split at h
    · have ha := (sE a g h).1
      exact ⟨se_isnn ha, fun _ => st_isnn ha⟩
    · cases h
  | .and_ es, C, X, W, e, g, h => by
    unfold chkE at h
    split at h
    · simp only [Bool.and_eq_true] at h
      obtain ⟨h1, h2⟩ := sAnd es g h.2 (ne_nil h.1)
      exact ⟨h1, fun ht => (h2 ht).pt⟩
    · cases h
  | .or_ es, C, X, W, e, g, h => by
    unfold chkE at h
    split at h
    · simp only [Bool.and_eq_true] at h
      obtain ⟨h1, h2⟩ := sOr es g h.2 (ne_nil h.1)
      exact ⟨h1, fun ht => (h2 ht).pt⟩
    · cases h
  | .ite c a b, C, X, W, e, g, h => by
    unfold chkE at h
    split at h
    · simp only [Bool.and_eq_true] at h
      obtain ⟨⟨⟨h1, h2⟩, h3⟩, h4⟩ := h
      exact ⟨se_ite ((sE c g h2).2 h1) (sE a g h3).1 (sE b g h4).1, fun ht => by cases ht⟩
    · cases h
  | .tup es, C, X, W, e, g, h => by
    unfold chkE at h
    split at h
    · exact both g.hK (se_tup (sEs es g h).1) rfl
    · cases h
  | .lst es, C, X, W, e, g, h => by
    unfold chkE at h
    split at h
    · exact both g.hK (se_lst (sEs es g h).1) rfl
    · cases h
  | .dict0 t, C, X, W, e, g, h => by
    unfold chkE at h
    split at h
    · cases t with
      | true => exact both g.hK se_dict0T rfl
      | false => exact both g.hK se_dict0 rfl
    · cases h
  | .disp ps, C, X, W, e, g, h => by
    unfold chkE at h
    split at h
    · simp only [Bool.and_eq_true] at h
      obtain ⟨⟨⟨⟨h1, h2⟩, h3⟩, h4⟩, h5⟩ := h
      exact both g.hK (se_disp (sPs ps g h1) h2 (of_decide_eq_true h3) (ne_nil h4) (of_decide_eq_true h5)) rfl
    · cases h
  | .idx a b, C, X, W, e, g, h => by
    unfold chkE at h
    split at h
    · simp only [Bool.and_eq_true] at h
      exact both g.hK (se_idx g.hP g.hW g.hK (by have := g.units; omega) (sE a g h.1.1).1 (sE b g h.1.2).1 (notSl_ix h.2)) rfl
    · cases h
  | .slc a lo hi, C, X, W, e, g, h => by
    unfold chkE at h
    split at h
    · simp only [Bool.and_eq_true] at h
      exact both g.hK (se_slc g.hK (sE a g h.1.1).1 (sO lo g h.1.2) (sO hi g h.2)) rfl
    · cases h
  | .rev a, C, X, W, e, g, h => by
    unfold chkE at h
    split at h
    · simp only [Bool.and_eq_true] at h
      have e1 := of_decide_eq_true h.1
      subst e1
      exact both g.hK (se_rev g.hK (sE a g h.2).1) rfl
    · cases h
  | .attr a f, C, X, W, e, g, h => by
    unfold chkE at h
    split at h
    · simp only [Bool.and_eq_true] at h
      have e1 := of_decide_eq_true h.1.1
      subst e1
      exact both g.hK (se_attr g.cls (sE a g h.1.2).1 h.2) rfl
    · cases h
  | .call f args, C, X, W, e, g, h => by
    unfold chkE at h
    split at h
    · simp only [Bool.and_eq_true] at h
      obtain ⟨⟨⟨h1, h2⟩, h3⟩, h4⟩ := h
      obtain ⟨fa, fd, ps, hm, F⟩ := g.fns _ _ (of_decide_eq_true h1)
      obtain ⟨q1, q2⟩ := sEs args g h4
      refine both g.hK ?_ rfl
      rename_i p l pos
      cases l with
      | nil =>
        cases args with
        | nil => exact se_call0 F g.room' g.tk (g.glo h2) hm (okNm_db h3)
        | cons e es => cases h4
      | cons e es => exact se_call F g.room' g.tk (g.glo h2) hm q2 q1 (okNm_db h3)
    · cases h
  | .make c args, C, X, W, e, g, h => by
    unfold chkE at h
    split at h
    · simp only [Bool.and_eq_true] at h
      obtain ⟨⟨⟨h1, h2⟩, h3⟩, h4⟩ := h
      obtain ⟨hm, hk⟩ := g.mks _ _ (of_decide_eq_true h1)
      obtain ⟨q1, q2⟩ := sEs args g h4
      refine both g.hK ?_ rfl
      rename_i p l pos
      cases l with
      | nil =>
        cases args with
        | nil => exact se_make0 g.cls g.room g.tk (g.glo h2) hm hk (okNm_db h3)
        | cons e es => cases h4
      | cons e es => exact se_make g.cls g.room g.tk (g.glo h2) hm hk q2 q1 (okNm_db h3)
    · cases h
  | .meth o m args, C, X, W, e, g, h => by
    unfold chkE at h
    split at h
    · simp only [Bool.and_eq_true] at h
      obtain ⟨⟨⟨⟨⟨⟨h1, h2⟩, h3⟩, h4⟩, h5⟩, h6⟩, h7⟩ := h
      have e1 := of_decide_eq_true h1
      subst e1
      obtain ⟨q1, q2⟩ := sEs args g h3
      refine both g.hK ?_ rfl
      rename_i l pos
      cases l with
      | nil => cases h7
      | cons e es => exact se_methA g.hP g.hW g.hK g.cls g.room' g.tk (sE o g h2).1 q1 h4 q2 h5 (of_decide_eq_true h6)
    · cases h
  | .bi b args, C, X, W, e, g, h => by
    unfold chkE at h
    split at h
    · simp only [Bool.and_eq_true] at h
      obtain ⟨⟨⟨⟨h1, h2⟩, h3⟩, h4⟩, h5⟩ := h
      have e1 := of_decide_eq_true h1
      subst e1
      obtain ⟨b1, b2⟩ := g.bltin h3
      obtain ⟨q1, q2⟩ := sEs args g h4
      refine both g.hK ?_ rfl
      rename_i l pos
      cases l with
      | nil => cases h5
      | cons e es => exact se_bi g.calm g.hK h2 b1 b2 q2 q1
    · cases h
  | .isi a t, C, X, W, e, g, h => by
    unfold chkE at h
    split at h
    · simp only [Bool.and_eq_true] at h
      obtain ⟨⟨⟨⟨⟨h1, h2⟩, h3⟩, h4⟩, h5⟩, h6⟩ := h
      have e1 := of_decide_eq_true h1
      have e2 := of_decide_eq_true h3
      subst e1 e2
      obtain ⟨b1, b2⟩ := g.bltin h2
      obtain ⟨b3, b4⟩ := g.bltin h4
      exact both g.hK (se_isi g.hK b1 b2 b3 b4 (sE a g h5).1 h6) rfl
    · cases h
  | .comp elt tg it cond own, C, X, W, e, g, h => by
    unfold chkE at h
    split at h
    · simp only [Bool.and_eq_true] at h
      obtain ⟨⟨⟨⟨⟨⟨⟨h1, h2⟩, h3⟩, h4⟩, h5⟩, h6⟩, h7⟩, h8⟩ := h
      have e1 := of_decide_eq_true h1
      subst e1
      rename_i pos
      have ok := blk_ok g h6
      have gi := fun (s : Shared) (H : Hp) (Ca : Addr) (cl : List (Str × Addr)) (fp : List Addr) => g.inner ok.kind s H Ca cl fp
      have R := se_lc (T := tg) (W := W) (pos := pos) g.calm g.nd (sT it g h2) ok (fun s H Ca cl fp => tg_ok (gi s H Ca cl fp) h3) (tgr_ok tg) (fun i hi => by rw [own_fst]; exact of_decide_eq_true (List.all_eq_true.mp h7 i hi))
        (fun s H Ca cl fp => sC cond (gi s H Ca cl fp) h5) (fun s H Ca cl fp => (sE elt (gi s H Ca cl fp) h4).1) (fold_not h8)
      rw [own_fst] at R
      exact both g.hK (R.1 R.2) rfl
    · cases h
  | .isx _ _, _, _, _, _, _, h => by cases h
  | .sortk _ _, _, _, _, _, _, h => by cases h
  | .fstr _, _, _, _, _, _, h => by cases h
  | .gin _ _ _, _, _, _, _, _, h => by cases h
  | .gget _ _, _, _, _, _, _, h => by cases h
  | .chain _ _ _ _ _, _, _, _, _, _, h => by cases h
theorem sEs : ∀ (es : IEs) {C : Cst} {X : Cx} {W : WX} {l : List Expr}, Good C G w k X W → chkEs es C l = true → PA X l (liftA w W (evEs G es)) ∧ l.all notStar = true
  | .nil, C, X, W, l, g, h => by
    unfold chkEs at h
    cases l with
    | nil => exact ⟨sa_nil, rfl⟩
    | cons a r => cases h
  | .cons e es, C, X, W, l, g, h => by
    unfold chkEs at h
    split at h
    · simp only [Bool.and_eq_true] at h
      obtain ⟨q1, q2⟩ := sEs es g h.2
      exact ⟨sa_cons (sE e g h.1.1).1 q1 (star_cons h.1.2), by rw [List.all_cons, h.1.2, q2]; rfl⟩
    · cases h
theorem sPs : ∀ (ps : IPs) {C : Cst} {X : Cx} {W : WX} {ks : List (Option Expr)} {vs : List Expr} {pos : Pos}, Good C G w k X W → chkPs ps C ks vs = true → PPs X pos ks vs (trs w W G ps)
  | .nil, C, X, W, ks, vs, pos, g, h => by
    unfold chkPs at h
    rw [Bool.and_eq_true] at h
    cases ks with
    | nil =>
      cases vs with
      | nil => exact pps_nil
      | cons a r => cases h.2
    | cons a r => cases h.1
  | .cons a b r, C, X, W, ks, vs, pos, g, h => by
    unfold chkPs at h
    split at h
    · simp only [Bool.and_eq_true] at h
      exact pps_cons (sE a g h.1.1).1 (sE b g h.1.2).1 (sPs r g h.2)
    · cases h
theorem sAnd : ∀ (es : IEs) {C : Cst} {X : Cx} {W : WX} {l : List Expr} {pos : Pos}, Good C G w k X W → chkEs es C l = true → l ≠ [] → PE X (.BoolOp .And l pos) (liftE w W (evAnd G es)) ∧ (tbs es = true → PW X (.BoolOp .And l pos) (liftT w W (ev1 (evAnd G es) truD)))
  | .nil, C, X, W, l, pos, g, h, hl => by
    unfold chkEs at h
    cases l with
    | nil => exact absurd rfl hl
    | cons a r => cases h
  | .cons e es, C, X, W, l, pos, g, h, hl => by
    unfold chkEs at h
    split at h
    · rename_i x r
      simp only [Bool.and_eq_true] at h
      obtain ⟨h1, h2⟩ := sE e g h.1.1
      cases es with
      | nil =>
        cases r with
        | nil =>
          refine ⟨PE.ev (pe_one h1) fun rho S => ?_, fun ht => ?_⟩
          · show ((evE G e rho S).bind fun x S => if true = true then Res.ok x S else _) = _
            cases evE G e rho S <;> rfl
          · have ht' : tb e = true := by unfold tbs at ht; rw [Bool.and_eq_true] at ht; exact ht.1
            exact PW.ev (sw_and1 (h2 ht')) fun rho S => by rw [tru_and]; rfl
        | cons a r => cases h.2
      | cons e2 es2 =>
        cases r with
        | nil => cases h.2
        | cons a r =>
          obtain ⟨q1, q2⟩ := sAnd (.cons e2 es2) (pos := pos) g h.2 (by simp)
          refine ⟨PE.ev (se_and h1 q1 g.hK) fun rho S => rfl, fun ht => ?_⟩
          have ht' : tb e = true ∧ tbs (.cons e2 es2) = true := by unfold tbs at ht; rw [Bool.and_eq_true] at ht; exact ht
          exact PW.ev (sw_and (h2 ht'.1) (q2 ht'.2)) fun rho S => by rw [tru_and]; rfl
    · cases h
theorem sOr : ∀ (es : IEs) {C : Cst} {X : Cx} {W : WX} {l : List Expr} {pos : Pos}, Good C G w k X W → chkEs es C l = true → l ≠ [] → PE X (.BoolOp .Or l pos) (liftE w W (evOr G es)) ∧ (tbs es = true → PW X (.BoolOp .Or l pos) (liftT w W (ev1 (evOr G es) truD)))
  | .nil, C, X, W, l, pos, g, h, hl => by
    unfold chkEs at h
    cases l with
    | nil => exact absurd rfl hl
    | cons a r => cases h
  | .cons e es, C, X, W, l, pos, g, h, hl => by
    unfold chkEs at h
    split at h
    · rename_i x r
      simp only [Bool.and_eq_true] at h
      obtain ⟨h1, h2⟩ := sE e g h.1.1
      cases es with
      | nil =>
        cases r with
        | nil =>
          refine ⟨PE.ev (pe_one h1) fun rho S => ?_, fun ht => ?_⟩
          · show ((evE G e rho S).bind fun x S => if true = true then Res.ok x S else _) = _
            cases evE G e rho S <;> rfl
          · have ht' : tb e = true := by unfold tbs at ht; rw [Bool.and_eq_true] at ht; exact ht.1
            exact PW.ev (sw_or1 (h2 ht')) fun rho S => by rw [tru_or]; rfl
        | cons a r => cases h.2
      | cons e2 es2 =>
        cases r with
        | nil => cases h.2
        | cons a r =>
          obtain ⟨q1, q2⟩ := sOr (.cons e2 es2) (pos := pos) g h.2 (by simp)
          refine ⟨PE.ev (se_or h1 q1 g.hK) fun rho S => rfl, fun ht => ?_⟩
          have ht' : tb e = true ∧ tbs (.cons e2 es2) = true := by unfold tbs at ht; rw [Bool.and_eq_true] at ht; exact ht
          exact PW.ev (sw_or (h2 ht'.1) (q2 ht'.2)) fun rho S => by rw [tru_or]; rfl
    · cases h
theorem sO : ∀ (o : IO) {C : Cst} {X : Cx} {W : WX} {e : Option Expr}, Good C G w k X W → chkO o C e = true → PO X e (liftG w relI W (evO G o))
  | .none, C, X, W, e, g, h => by
    unfold chkO at h
    cases e with
    | none => exact so_none
    | some a => cases h
  | .some a, C, X, W, e, g, h => by
    unfold chkO at h
    split at h
    · exact so_some (sE a g h).1
    · cases h
theorem sC : ∀ (o : IO) {C : Cst} {X : Cx} {W : WX} {l : List Expr}, Good C G w k X W → chkC o C l = true → PTs X l (liftT w W (evC1 G o))
  | .none, C, X, W, l, g, h => by
    unfold chkC at h
    cases l with
    | nil => exact ⟨fun pins s σ H Q I ⟨rho, S, mu, re, rs, z⟩ => pts_nil.run pins s σ H Q I (Post.ok (Rel := relB) z rs rfl)⟩
    | cons a r => cases h
  | .some a, C, X, W, l, g, h => by
    unfold chkC at h
    split at h
    · rw [Bool.and_eq_true] at h
      exact pts_one ((sE a g h.1).2 h.2)
    · cases h
theorem sT : ∀ (t : IT) {C : Cst} {X : Cx} {W : WX} {tg e : Expr}, Good C G w k X W → chkT t C e = true → PI X tg e (liftI w W (evT G t))
  | .exp a, C, X, W, tg, e, g, h => si_exp (sE a g h).1 g.hK
  | .range1 a, C, X, W, tg, e, g, h => by
    unfold chkT at h
    split at h
    · simp only [Bool.and_eq_true] at h
      obtain ⟨⟨⟨h1, h2⟩, h3⟩, h4⟩ := h
      have e1 := of_decide_eq_true h1
      subst e1
      obtain ⟨b1, b2⟩ := g.bltin h2
      exact si_range1 b1 b2 (sE a g h3).1 h4
    · cases h
  | .range2 a b, C, X, W, tg, e, g, h => by
    unfold chkT at h
    split at h
    · simp only [Bool.and_eq_true] at h
      obtain ⟨⟨⟨⟨⟨h1, h2⟩, h3⟩, h4⟩, h5⟩, h6⟩ := h
      have e1 := of_decide_eq_true h1
      subst e1
      obtain ⟨b1, b2⟩ := g.bltin h2
      exact si_range2 b1 b2 (sE a g h3).1 (sE b g h5).1 h4 h6
    · cases h
  | .values _, _, _, _, _, _, _, h => by cases h
  | .enum _, _, _, _, _, _, _, h => by cases h
  | .zip _ _, _, _, _, _, _, _, h => by cases h
end
end
end Bs

set_option Elab.async false
set_option linter.all false
set_option maxRecDepth 100000
set_option maxHeartbeats 4000000
/-! Bs18: the checker: statements. -/
namespace Bs
open PySem PySem.Spec L2

def localB (C : Cst) (x : Str) : Bool := match C.ns.lookup x with
  | some .local => true
  | _ => false
/-- a name takes this value -/
def nmB (C : Cst) (x : Str) (p : Pos) (v : Expr) : Bool := if notComp v = true then locB C x else localB C x && (match v with
  | .ListComp _ _ sc vpos => (p.line == vpos.line) && !(sc.names.any fun (n, k) => n == x && (k == .local || k == .cell))
  | _ => false)
def notTupE : Expr → Bool
  | .Tuple .. => false
  | _ => true
mutual
def chkS : IS → Cst → Stmt → Bool
  | .asg tg e, C, s => match s with
    | .Assign [t] v _ => chkE e C v && match tg with
      | .name i => (match t with
        | .Name x p => decide (C.N[i]? = some x) && nmB C x p v
        | _ => false)
      | .tup is => tgB C (.tup is) t && notTupE v && notComp v
    | _ => false
  | .asgS o i e, C, s => match s with
    | .Assign [.Subscript x y _] v _ => chkE e C v && chkE o C x && chkE i C y && notSl y
    | _ => false
  | .par2 i j a b, C, s => match s with
    | .Assign [.Tuple [.Name x px, .Name y py] _ _] (.Tuple [u, v] _ _) _ => decide (C.N[i]? = some x) && decide (C.N[j]? = some y) && decide (i ≠ j) && decide (x ≠ y) && localB C x && localB C y && chkE a C u && chkE b C v && notStar u && notStar v &&
      (py.line == px.line) && !(foldedForSure 8 u && foldedForSure 8 v) && !(constantsAlone 8 u && constantsAlone 8 v)
    | _ => false
  | .par3 i j l a b c, C, s => match s with
    | .Assign [.Tuple [.Name x px, .Name y py, .Name z pz] _ _] (.Tuple [u, v, t] _ _) _ => decide (C.N[i]? = some x) && decide (C.N[j]? = some y) && decide (C.N[l]? = some z) && decide (i ≠ j ∧ i ≠ l ∧ j ≠ l) && decide (x ≠ y ∧ x ≠ z ∧ y ≠ z) && localB C x && localB C y && localB C z && chkE a C u && chkE b C v && chkE c C t && notStar u && notStar v && notStar t &&
      (py.line == px.line) && (pz.line == px.line) && !(foldedForSure 8 u && foldedForSure 8 v && foldedForSure 8 t) && !(constantsAlone 8 u && constantsAlone 8 v && constantsAlone 8 t)
    | _ => false
  | .del o i, C, s => match s with
    | .Delete [.Subscript x y _] _ => chkE o C x && chkE i C y
    | _ => false
  | .expr e, C, s => match s with
    | .Expr v _ => chkE e C v && notComp v
    | _ => false
  | .ret e, C, s => match s with
    | .Return (some v) _ => chkE e C v
    | _ => false
  | .retN, _, s => match s with
    | .Return none _ => true
    | _ => false
  | .pass, _, s => match s with
    | .Pass _ => true
    | _ => false
  | .brk, _, s => match s with
    | .Break _ => true
    | _ => false
  | .cont, _, s => match s with
    | .Continue _ => true
    | _ => false
  | .if_ c a b, C, s => match s with
    | .If t p q _ => tb c && chkE c C t && chkSs a C p && chkSs b C q
    | _ => false
  | .for_ tg it body, C, s => match s with
    | .For t i p [] _ => tgB C tg t && chkT it C i && notSet i && chkSs body C p
    | _ => false
  | .while_ c body, C, s => match s with
    | .While t p [] _ => tb c && chkE c C t && chkSs body C p
    | _ => false
  | .asgA _ _ _, _, _ => false
  | .aug _ _ _, _, _ => false
  | .augA _ _ _ _, _, _ => false
  | .augS _ _ _ _, _, _ => false
  | .raise _ _, _, _ => false
  | .tryx _ _ _ _, _, _ => false
def chkSs : ISs → Cst → List Stmt → Bool
  | .nil, _, l => l.isEmpty
  | .cons s r, C, l => match l with
    | x :: l => chkS s C x && chkSs r C l
    | [] => false
end

section
variable {env : PySem.Env} {x y z : Str} {u v t : Expr} {px py pz p1 p2 : Pos} {k1 k2 : Nat}
theorem star_any2 {l : List Expr} (h : l.all notStar = true) : (l.any fun | .Starred .. => true | _ => false) = false := by
  induction l with
  | nil => rfl
  | cons a r ih =>
    rw [List.all_cons, Bool.and_eq_true] at h
    rw [List.any_cons, ih h.2]
    cases a <;> first | rfl | (have := h.1; cases this)
theorem sws2 (hk : env.scope.kind = .function) (hx : env.scope.names.lookup x = some .local) (hy : env.scope.names.lookup y = some .local) (hxy : x ≠ y) (hl : (py.line == px.line) = true) (hu : notStar u = true) (hv : notStar v = true)
    (hf : (foldedForSure 8 u && foldedForSure 8 v) = false) (hc : (constantsAlone 8 u && constantsAlone 8 v) = false) :
    swappedStores [.Tuple [.Name x px, .Name y py] k1 p1] (.Tuple [u, v] k2 p2) env = pure (some [x, y]) := by
  have kx : env.kindOf x = some .local := hx
  have ky : env.kindOf y = some .local := hy
  have hb : env.blockKind = .function := by unfold Env.blockKind; rw [hk]; rfl
  have hl' : py.line = px.line := eq_of_beq hl
  have hyx : (y == x) = false := by simpa using Ne.symm hxy
  unfold swappedStores
  simp [kx, ky, hb, hl', Expr.pos, List.eraseDups_cons, hyx, hf, hc]
  intro h
  rcases h with h | h
  · cases u <;> first | (cases h; done) | (cases hu; done)
  · cases v <;> first | (cases h; done) | (cases hv; done)
theorem sws3 (hk : env.scope.kind = .function) (hx : env.scope.names.lookup x = some .local) (hy : env.scope.names.lookup y = some .local) (hz : env.scope.names.lookup z = some .local) (hxy : x ≠ y) (hxz : x ≠ z) (hyz : y ≠ z) (hl : (py.line == px.line) = true) (hl2 : (pz.line == px.line) = true)
    (hu : notStar u = true) (hv : notStar v = true) (ht : notStar t = true)
    (hf : (foldedForSure 8 u && foldedForSure 8 v && foldedForSure 8 t) = false) (hc : (constantsAlone 8 u && constantsAlone 8 v && constantsAlone 8 t) = false) :
    swappedStores [.Tuple [.Name x px, .Name y py, .Name z pz] k1 p1] (.Tuple [u, v, t] k2 p2) env = pure (some [x, y, z]) := by
  have kx : env.kindOf x = some .local := hx
  have ky : env.kindOf y = some .local := hy
  have kz : env.kindOf z = some .local := hz
  have hb : env.blockKind = .function := by unfold Env.blockKind; rw [hk]; rfl
  have hl' : py.line = px.line := eq_of_beq hl
  have hl2' : pz.line = px.line := eq_of_beq hl2
  have hyx : (y == x) = false := by simpa using Ne.symm hxy
  have hzx : (z == x) = false := by simpa using Ne.symm hxz
  have hzy : (z == y) = false := by simpa using Ne.symm hyz
  rw [Bool.and_assoc] at hf hc
  unfold swappedStores
  simp [kx, ky, kz, hb, hl', hl2', Expr.pos, List.eraseDups_cons, hyx, hzx, hzy, hf, hc]
  intro h
  rcases h with h | h | h
  · cases u <;> first | (cases h; done) | (cases hu; done)
  · cases v <;> first | (cases h; done) | (cases hv; done)
  · cases t <;> first | (cases h; done) | (cases ht; done)
theorem sws_sole {l : Nat} (h : swapsWith u (some t) l env = pure false) : swapsWithSole [t] u l env = pure false := h
theorem sws_name {p : Pos} : swappedStores [.Name x p] u env = pure none := by cases u <;> rfl
theorem sws_tup {es : List Expr} {kk : Nat} {p : Pos} (h : notTupE u = true) : swappedStores [.Tuple es kk p] u env = pure none := by cases u <;> first | rfl | cases h
end

section
variable {G : Lang} {w : Wd} {k : Nat} {C : Cst} {X : Cx} {W : WX}
theorem Good.lcl (g : Good C G w k X W) {x : Str} (h : localB C x = true) : X.env.scope.names.lookup x = some .local := by
  unfold localB at h
  rw [g.ns]
  split at h
  · rename_i e; exact e
  · cases h
theorem Good.ix (g : Good C G w k X W) {i : Nat} {x : Str} (h : decide (C.N[i]? = some x) = true) : X.N[i]? = some x := by rw [g.N]; exact of_decide_eq_true h
theorem sS_name (g : Good C G w k X W) {i : Nat} {e : IE} {x : Str} {p spos : Pos} {v : Expr} (he : chkE e C v = true) (hi : decide (C.N[i]? = some x) = true) (h : nmB C x p v = true) : PS X (.Assign [.Name x p] v spos) (liftS w W (evS G (.asg (.name i) e))) := by
  unfold nmB at h
  by_cases hc : notComp v = true
  · rw [if_pos hc] at h
    obtain ⟨l1, l2⟩ := g.loc h
    exact ss_asg (sE e g he).1 (pg_name g.nd (g.ix hi) l1 l2) tg_name (sws_sole (sw_not hc)) sws_name rfl
  · rw [if_neg hc, Bool.and_eq_true] at h
    obtain ⟨h1, h2⟩ := h
    cases v with
    | ListComp el gs sc vpos =>
      dsimp only at h2
      cases e with
      | comp elt tg it cond own =>
        unfold chkE at he
        split at he
        · rename_i el' t' i' ifs as sc' pos' heq
          cases heq
          simp only [Bool.and_eq_true] at he
          obtain ⟨⟨⟨⟨⟨⟨⟨c1, c2⟩, c3⟩, c4⟩, c5⟩, c6⟩, c7⟩, c8⟩ := he
          have e1 := of_decide_eq_true c1
          subst e1
          rw [Bool.and_eq_true] at h2
          have ok := blk_ok g c6
          have gi := fun (s : Shared) (H : Hp) (Ca : Addr) (cl : List (Str × Addr)) (fp : List Addr) => g.inner ok.kind s H Ca cl fp
          have R := ss_setLc (W := W) (i := i) (spos := spos) (T := tg) g.calm g.nd (g.ix hi) (g.lcl h1) (sw_true g.kind (g.lcl h1) h2.1 ((Bool.not_eq_true' _).mp h2.2)) (sT it g c2) ok (fun s H Ca cl fp => tg_ok (gi s H Ca cl fp) c3) (tgr_ok tg) (fun i hi => by rw [own_fst]; exact of_decide_eq_true (List.all_eq_true.mp c7 i hi))
            (fun s H Ca cl fp => sC cond (gi s H Ca cl fp) c5) (fun s H Ca cl fp => (sE elt (gi s H Ca cl fp) c4).1) (fold_not c8)
          rw [own_fst] at R
          exact R
        · cases he
      | _ => cases he
    | _ => first | (cases h2; done) | exact absurd rfl hc
mutual
theorem sS : ∀ (s : IS) {C : Cst} {X : Cx} {W : WX} {st : Stmt}, Good C G w k X W → chkS s C st = true → PS X st (liftS w W (evS G s))
  | .asg tg e, C, X, W, st, g, h => by
    unfold chkS at h
    split at h
    · rw [Bool.and_eq_true] at h
      obtain ⟨h1, h2⟩ := h
      cases tg with
      | name i =>
        dsimp only at h2
        split at h2
        · rw [Bool.and_eq_true] at h2
          exact sS_name g h1 h2.1 h2.2
        · cases h2
      | tup is =>
        simp only [Bool.and_eq_true] at h2
        obtain ⟨⟨a1, a2⟩, a3⟩ := h2
        have a0 := a1
        unfold tgB at a1
        dsimp only at a1
        split at a1
        · exact ss_asg (sE e g h1).1 (tg_ok g a0) (tgr_ok _) (sws_sole (sw_not a3)) (sws_tup a2) rfl
        · cases a1
    · cases h
  | .asgS o i e, C, X, W, st, g, h => by
    unfold chkS at h
    split at h
    · simp only [Bool.and_eq_true] at h
      exact ss_setS g.hP g.hW g.hK (by have := g.units; omega) (sE o g h.1.1.2).1 (sE i g h.1.2).1 (sE e g h.1.1.1).1 h.2
    · cases h
  | .par2 i j a b, C, X, W, st, g, h => by
    unfold chkS at h
    split at h
    · simp only [Bool.and_eq_true] at h
      obtain ⟨⟨⟨⟨⟨⟨⟨⟨⟨⟨⟨⟨h1, h2⟩, h3⟩, h4⟩, h5⟩, h6⟩, h7⟩, h8⟩, h9⟩, ha⟩, hb⟩, hc⟩, hd⟩ := h
      exact ss_par2 g.calm g.nd (g.ix h1) (g.ix h2) (of_decide_eq_true h3) (g.lcl h5) (g.lcl h6) (sE a g h7).1 (sE b g h8).1 h9 ha
        (sws2 g.kind (g.lcl h5) (g.lcl h6) (of_decide_eq_true h4) hb h9 ha ((Bool.not_eq_true' _).mp hc) ((Bool.not_eq_true' _).mp hd))
    · cases h
  | .par3 i j l a b c, C, X, W, st, g, h => by
    unfold chkS at h
    split at h
    · simp only [Bool.and_eq_true] at h
      obtain ⟨⟨⟨⟨⟨⟨⟨⟨⟨⟨⟨⟨⟨⟨⟨⟨⟨h1, h2⟩, h3⟩, h4⟩, h5⟩, h6⟩, h7⟩, h8⟩, h9⟩, ha⟩, hb⟩, n1⟩, n2⟩, n3⟩, l1⟩, l2⟩, hc⟩, hd⟩ := h
      obtain ⟨d1, d2, d3⟩ := of_decide_eq_true h4
      obtain ⟨e1, e2, e3⟩ := of_decide_eq_true h5
      exact ss_par3 g.calm g.nd (g.ix h1) (g.ix h2) (g.ix h3) d1 d2 d3 (g.lcl h6) (g.lcl h7) (g.lcl h8) (sE a g h9).1 (sE b g ha).1 (sE c g hb).1 n1 n2 n3
        (sws3 g.kind (g.lcl h6) (g.lcl h7) (g.lcl h8) e1 e2 e3 l1 l2 n1 n2 n3 ((Bool.not_eq_true' _).mp hc) ((Bool.not_eq_true' _).mp hd))
    · cases h
  | .del o i, C, X, W, st, g, h => by
    unfold chkS at h
    split at h
    · simp only [Bool.and_eq_true] at h
      exact ss_del (sE o g h.1).1 (sE i g h.2).1
    · cases h
  | .expr e, C, X, W, st, g, h => by
    unfold chkS at h
    split at h
    · simp only [Bool.and_eq_true] at h
      exact ss_expr (sE e g h.1).1 h.2
    · cases h
  | .ret e, C, X, W, st, g, h => by
    unfold chkS at h
    split at h
    · exact ss_ret (sE e g h).1
    · cases h
  | .retN, C, X, W, st, g, h => by
    unfold chkS at h
    split at h
    · exact ss_retN
    · cases h
  | .pass, C, X, W, st, g, h => by
    unfold chkS at h
    split at h
    · exact ss_pass
    · cases h
  | .brk, C, X, W, st, g, h => by
    unfold chkS at h
    split at h
    · exact ss_brk
    · cases h
  | .cont, C, X, W, st, g, h => by
    unfold chkS at h
    split at h
    · exact ss_cont
    · cases h
  | .if_ c a b, C, X, W, st, g, h => by
    unfold chkS at h
    split at h
    · simp only [Bool.and_eq_true] at h
      exact ss_if ((sE c g h.1.1.2).2 h.1.1.1) (sSs a g h.1.2) (sSs b g h.2)
    · cases h
  | .for_ tg it body, C, X, W, st, g, h => by
    unfold chkS at h
    split at h
    · simp only [Bool.and_eq_true] at h
      obtain ⟨⟨⟨h1, h2⟩, h3⟩, h4⟩ := h
      exact ss_for g.po g.calm (sT it g h2) (tg_ok g h1) (tgr_ok tg) (sSs body g h4) (fold_not h3)
    · cases h
  | .while_ c body, C, X, W, st, g, h => by
    unfold chkS at h
    split at h
    · simp only [Bool.and_eq_true] at h
      exact ss_while g.po ((sE c g h.1.2).2 h.1.1) (sSs body g h.2)
    · cases h
  | .asgA _ _ _, _, _, _, _, _, h => by cases h
  | .aug _ _ _, _, _, _, _, _, h => by cases h
  | .augA _ _ _ _, _, _, _, _, _, h => by cases h
  | .augS _ _ _ _, _, _, _, _, _, h => by cases h
  | .raise _ _, _, _, _, _, _, h => by cases h
  | .tryx _ _ _ _, _, _, _, _, _, h => by cases h
theorem sSs : ∀ (s : ISs) {C : Cst} {X : Cx} {W : WX} {l : List Stmt}, Good C G w k X W → chkSs s C l = true → PSs X l (liftS w W (evSs G s))
  | .nil, C, X, W, l, g, h => by
    unfold chkSs at h
    cases l with
    | nil => exact ss_nil
    | cons a r => cases h
  | .cons s r, C, X, W, l, g, h => by
    unfold chkSs at h
    split at h
    · rw [Bool.and_eq_true] at h
      exact ss_cons (sS s g h.1) (sSs r g h.2)
    · cases h
end
end
end Bs

set_option Elab.async false
set_option linter.all false
set_option maxRecDepth 100000
set_option maxHeartbeats 2000000
/-! Bs19: the defs of a program, by the depth of calls. -/
namespace Bs
open PySem PySem.Spec L2

/-- a def: its slots, parameters, term, text -/
structure Df where
  name : Str
  qual : Str
  N : List Str
  ps : List Str
  body : ISs
  args : Arguments
  ast : List Stmt
  scope : Scope
structure Prg where
  defs : List Df
  /-- how many of them are the module's own: the first ones -/
  ng : Nat
  meth : Nat → Nm → Option Nat
  init : Nat → Option Nat
  fld : Nat → List Nm
  sub : Nat → Nat → Bool
  tbl : Nat → List (Nm × D)
  turns : Nat
  cnm : List Str
  blt : List Str
  gl : List (Str × D)
def Prg.lang (p : Prg) (f : Nat → List D → Store → Res D) : Lang := ⟨f, p.meth, p.init, p.fld, p.sub, p.tbl, p.turns⟩
def Prg.callN (p : Prg) : Nat → Nat → List D → Store → Res D
  | 0, _, _, _ => .stuck
  | n + 1, i, ds, S => match p.defs[i]? with
    | some d => runBody (p.lang (p.callN n)) d.N.length d.ps.length d.body ds S
    | none => .stuck
def Prg.fnm (p : Prg) : List Str := (p.defs.take p.ng).map (·.name)
def Prg.cst (p : Prg) (d : Df) : Cst := ⟨d.N, d.scope.names, fun _ => true, p.fnm, p.cnm, p.blt, p.gl⟩
def scB (N ps : List Str) (sc : Scope) : Bool :=
  (sc.kind == .function) && !sc.isCoroutine && !sc.isGenerator && decide N.Nodup && decide (N.take ps.length = ps) &&
  (ps.all fun x => match sc.names.lookup x with
    | some .local => true
    | some .cell => true
    | _ => false) && sc.names.all fun y => decide (y.2 ≠ .free)
theorem scB_ok {N ps : List Str} {sc : Scope} (h : scB N ps sc = true) : FnScope N ps sc := by
  unfold scB at h
  simp only [Bool.and_eq_true, Bool.not_eq_true'] at h
  obtain ⟨⟨⟨⟨⟨⟨h1, h2⟩, h3⟩, h4⟩, h5⟩, h6⟩, h7⟩ := h
  refine ⟨eq_of_beq h1, h2, h3, of_decide_eq_true h4, of_decide_eq_true h5, fun x hx => ?_, fun y hy => of_decide_eq_true (List.all_eq_true.mp h7 y hy)⟩
  have q := List.all_eq_true.mp h6 x hx
  split at q
  · rename_i e; exact .inl e
  · rename_i e; exact .inr e
  · cases q
def Prg.ok (p : Prg) : Bool := p.defs.all fun d => scB d.N d.ps d.scope && chkSs d.body (p.cst d) d.ast
theorem Prg.call_len {p : Prg} {d : Df} {n i : Nat} {ds : List D} {S : Store} (h : p.defs[i]? = some d) (hl : ds.length ≠ d.ps.length) : p.callN n i ds S = .stuck := by
  cases n with
  | zero => rfl
  | succ n =>
    unfold Prg.callN
    rw [h]
    dsimp only
    unfold runBody
    rw [if_neg hl]

section
variable {p : Prg} {P : Program} {W : World} {K : PySem.W.Frag} {mg : Str → Option Value} {base : Heap}
structure AtD (K : PySem.W.Frag) (d : Df) (f : Addr) (fd : FuncData) : Prop where
  fn : FunD K d.name d.qual d.args d.ast d.scope [] [] f fd
  bind : Binds K fd d.ps []
/-- what the top has made -/
structure Top (p : Prg) (K : PySem.W.Frag) (mg : Str → Option Value) (cl : Nat → Addr) : Prop where
  fns : ∀ i d, i < p.ng → p.defs[i]? = some d → ∃ fa fd, mg d.name = some (.ref fa) ∧ AtD K d fa fd
  mks : ∀ c x, p.cnm[c]? = some x → mg x = some (.ref (cl c)) ∧ PySem.W.keepIn K (.ref (cl c)) = true
  cls : ∀ c m f, p.meth c m = some f → Cls K (cl c) ∧ ∃ d fa fd, p.defs[f]? = some d ∧ AtD K d fa fd ∧ L2.Meth K (cl c) (S2 m) fa
  fld : ∀ c f, f ∈ p.fld c → Cls K (cl c) ∧ NoAttr K (cl c) (S2 f)
  mkr : ∀ c f, p.init c = some f → ∃ d fa fd, p.defs[f]? = some d ∧ AtD K d fa fd ∧ L2.Mk K (cl c) fa
  blt : ∀ x ∈ p.blt, mg x = none
  gl : ∀ x d, (x, d) ∈ p.gl → ∃ u v, mg x = some u ∧ RelV v u ∧ flatD d = some v ∧ ∀ z, d = .str z → okStr z
theorem flat_rel {w : Wd} {H : Hp} {mu : List Addr} {d : D} {v : V} (h : flatD d = some v) (hs : ∀ z, d = .str z → okStr z) : RelD w H mu d v := by
  cases d <;> cases h
  · exact .non
  · exact .bl
  · exact .int
  · exact .str (hs _ rfl)
theorem start_rel {w : Wd} {H : Hp} {mu : List Addr} {N : List Str} {ds : List D} {vs : List V} (r : RelDs w H mu ds vs) : RelE w H mu (startE N.length ds) (start N vs) := by
  refine ⟨by unfold startE L2.start; simp [r.length], fun i d h => ?_⟩
  unfold startE at h
  unfold L2.start
  by_cases hi : i < ds.length
  · rw [List.getElem?_append_left (by simpa using hi), List.getElem?_map] at h
    cases e : ds[i]? with
    | none => rw [e] at h; cases h
    | some d' =>
      rw [e] at h
      cases h
      obtain ⟨v, h1, h2⟩ := r.get e
      exact ⟨v, by rw [List.getElem?_append_left (by simpa [← r.length] using hi), List.getElem?_map, h1]; rfl, h2⟩
  · rw [List.getElem?_append_right (by simpa using Nat.le_of_not_lt hi)] at h
    rw [List.getElem?_replicate] at h
    split at h <;> cases h
theorem run_post {w : Wd} {H : Hp} {mu : List Addr} {G : Lang} {n k : Nat} {body : ISs} {ds : List D} {S : Store} {Q : VK} {E : XK} (h : Post w (RelD w) (fun c d _ H' => E c d H') [] H mu (runBody G n k body ds S) Q) :
    PostS w (fun c d _ H' => E c d H') H mu (evSs G body (startE n ds) S) { nx := fun _ H' => Q .non H', rt := Q } := by
  unfold runBody at h
  split at h
  · cases e : evSs G body (startE n ds) S with
    | nx rho S1 => rw [e] at h; exact fun σ' H' mu' p rs re k => h .non H' mu' p rs .non k
    | rt d S1 => rw [e] at h; exact h
    | ex c fs rho S1 => rw [e] at h; exact fun x σ' H' mu' p rs re rx k => h x H' mu' p rs rx k
    | bk rho S1 => rw [e] at h; exact h.elim
    | ct rho S1 => rw [e] at h; exact h.elim
    | stuck => rw [e] at h; exact h.elim
  · exact h.elim
/-- THE THEOREM: every def does what it does over data -/
theorem def_ok (w : Wd) (T : Top p w.K mg w.cl) (hok : p.ok = true) : ∀ (n i : Nat) (d : Df) (fa : Addr) (fd : FuncData), p.defs[i]? = some d → AtD w.K d fa fd → FnOk w.P w.wd w.K mg base (L2.CX w.P w.wd) (2 * n) fa fd d.ps (spOf w d.ps.length (p.callN n i))
  | 0, i, d, fa, fd, hd, A => ⟨fun vs H Q E h => h.1, fun A' outer s H args us vs Q E hr he hb hv h => by
      obtain ⟨_, ds, S, mu, _, _, z⟩ := h
      exact z.elim⟩
  | n + 1, i, d, fa, fd, hd, A => by
    have hall := List.all_eq_true.mp hok d (List.mem_of_getElem? hd)
    rw [Bool.and_eq_true] at hall
    have sc := scB_ok hall.1
    refine A.fn.ok (k := 2 * n + 1) sc (fun vs H Q E h => h.1) fun cdv A' outer s H vs Q E hr h => ?_
    obtain ⟨_, ds, S, mu, rd, rs, z⟩ := h
    unfold Prg.callN at z
    rw [hd] at z
    dsimp only at z
    refine ⟨liftS w (fun c d _ H' => E c d H') (evSs (p.lang (p.callN n)) d.body), sSs (k := 2 * n) (C := p.cst d) d.body ?_ hall.2, _, S, mu, start_rel rd, rs, run_post z⟩
    have fnm : ∀ j dj fj fdj, p.defs[j]? = some dj → AtD w.K dj fj fdj → FnM w (cxOf (L2.CX w.P w.wd) w.P w.wd w.K mg base d.N d.qual d.scope fa cdv A' outer s H E) (2 * n) (p.callN n j) fj fdj dj.ps := fun j dj fj fdj hj Aj =>
      ⟨def_ok w T hok n j dj fj fdj hj Aj, Aj.bind, Aj.fn.kp, fun ds S hl => Prg.call_len hj hl⟩
    exact {
      hP := rfl
      hW := rfl
      hK := rfl
      N := rfl
      nd := sc.nd
      ns := rfl
      kind := sc.kind
      calm := rfl
      room := hr
      tk := L2.takes_of rfl rfl rfl rfl
      po := L2.passes_of rfl
      fn := fun _ _ => rfl
      fns := fun j x hj => by
        unfold Prg.cst Prg.fnm at hj
        dsimp only at hj
        rw [List.getElem?_map, List.getElem?_take] at hj
        split at hj
        · rename_i hlt
          cases e : p.defs[j]? with
          | none => rw [e] at hj; cases hj
          | some dj =>
            rw [e] at hj
            cases hj
            obtain ⟨fj, fdj, hm, Aj⟩ := T.fns j dj hlt e
            exact ⟨fj, fdj, dj.ps, hm, fnm j dj fj fdj e Aj⟩
        · cases hj
      mks := T.mks
      cls := ⟨fun c m f h => (T.cls c m f h).1, fun c m f h => let ⟨_, dj, fj, fdj, hj, Aj, M⟩ := T.cls c m f h; ⟨fj, fdj, dj.ps, M, fnm f dj fj fdj hj Aj⟩, T.fld,
        fun c f h => let ⟨dj, fj, fdj, hj, Aj, M⟩ := T.mkr c f h; ⟨fj, fdj, dj.ps, M, fnm f dj fj fdj hj Aj⟩⟩
      blt := T.blt
      gl := fun x d h => let ⟨u, v, h1, h2, h3, h4⟩ := T.gl x d h; ⟨u, v, h1, h2, fun H mu => flat_rel h3 h4⟩ }
/-- the promise of a law -/
def spLaw (p : Prg) (P : Program) (W : World) (K : PySem.W.Frag) (cl : Nat → Addr) (n i : Nat) : Sp := fun vs H Q E => ∃ (a : Addr) (ns : List Int) (h : ns.length ≤ sizeLine), spOf ⟨P, W, K, a, ns, cl, h⟩ 1 (p.callN n i) vs H Q E
theorem law_ok (cl : Nat → Addr) (T : Top p K mg cl) (hok : p.ok = true) {n i : Nat} {d : Df} {fa : Addr} {fd : FuncData} (hd : p.defs[i]? = some d) (A : AtD K d fa fd) (h1 : d.ps.length = 1) : FnOk P W K mg base (L2.CX P W) (2 * n) fa fd d.ps (spLaw p P W K cl n i) := by
  refine ⟨fun vs H Q E ⟨a, ns, hz, h⟩ => by rw [h1]; exact h.1, fun A' outer s H args us vs Q E hr he hb hv ⟨a, ns, hz, h⟩ => ?_⟩
  have := def_ok (base := base) ⟨P, W, K, a, ns, cl, hz⟩ T hok n i d fa fd hd A
  rw [h1] at this
  exact this.run A' outer s H args us vs Q E hr he hb hv h
/-- .. which lets no exception out -/
theorem law_ok0 (cl : Nat → Addr) (T : Top p K mg cl) (hok : p.ok = true) {n i : Nat} {d : Df} {fa : Addr} {fd : FuncData} (hd : p.defs[i]? = some d) (A : AtD K d fa fd) (h1 : d.ps.length = 1) :
    FnOk P W K mg base CX0 (2 * n) fa fd d.ps (fun vs H Q _ => spLaw p P W K cl n i vs H Q fun _ _ _ => False) := by
  have F := law_ok (P := P) (W := W) (base := base) cl T hok (n := n) hd A h1
  refine ⟨fun vs H Q E h => F.len vs H Q _ h, fun A' outer s H args us vs Q E hr he hb hv h => ?_⟩
  refine codeAny_mono (F.run A' outer s H args us vs Q _ hr he hb hv h) fun r s' q => ?_
  cases r with
  | ok fl => cases fl <;> exact q
  | error e =>
    obtain ⟨a, B, H', cls, dd, _, _, _, _, _, _, _, z⟩ := q
    exact z.elim
theorem law_end {cl : Nat → Addr} {n i m : Nat} (hm : m ≤ sizeLine) (hL : ∀ ns : List Int, ns.length ≤ m → ∃ S, p.callN n i [.scr ns] [] = .ok (.bl true) S) (H : Hp) (a : Addr) (ns : List Int) (hl : ns.length ≤ m) (hS : SqL K H a (ns.map V.int)) :
    spLaw p P W K cl n i [.ref a] H (fun v _ => v = .bl true) fun _ _ _ => False := by
  refine ⟨a, ns, Nat.le_trans hl hm, rfl, [.scr ns], [], [], .cons .scr .nil, ⟨rfl, List.nodup_nil, fun i o b e => by simp at e, ?_⟩, ?_⟩
  · rcases hS with e | e
    · exact .inl ⟨e, by simp⟩
    · exact .inr e
  · obtain ⟨S, e⟩ := hL ns hl
    rw [e]
    intro v H' mu' _ _ rd _
    cases rd
    rfl
end
end Bs

set_option Elab.async false
set_option linter.all false
set_option maxRecDepth 100000
set_option maxHeartbeats 1000000
/-! Bs20: plain reasoning about the evaluator: equality of plain data, loops over lists. -/
namespace Bs
open PySem PySem.Spec L2

mutual
/-- data without references, lists, bools, of a depth -/
def okP : Nat → D → Bool
  | _, .non => true
  | _, .int _ => true
  | _, .str _ => true
  | n + 1, .tup xs => okPs n xs
  | _, _ => false
def okPs : Nat → List D → Bool
  | _, [] => true
  | n, x :: xs => okP n x && okPs n xs
end
mutual
def pdOf : D → PyData
  | .int i => .int i
  | .str x => .str (S2 x)
  | .tup xs => .tuple (pdsOf xs)
  | _ => .none
def pdsOf : List D → List PyData
  | [] => []
  | x :: xs => pdOf x :: pdsOf xs
end
mutual
theorem toPd_ok (S : Store) : ∀ (n : Nat) (a : D), okP n a = true → toPd S n a = some (pdOf a)
  | 0, .non, _ => rfl
  | 0, .int _, _ => rfl
  | 0, .str _, _ => rfl
  | n + 1, .non, _ => rfl
  | n + 1, .int _, _ => rfl
  | n + 1, .str _, _ => rfl
  | n + 1, .tup xs, h => by
    have h : okPs n xs = true := h
    show (optAll (toPd S n) xs).map PyData.tuple = _
    rw [toPds_ok S n xs h]
    rfl
  | 0, .tup _, h => by cases h
  | 0, .bl _, h => by cases h
  | 0, .ref _, h => by cases h
  | 0, .scr _, h => by cases h
  | n + 1, .bl _, h => by cases h
  | n + 1, .ref _, h => by cases h
  | n + 1, .scr _, h => by cases h
theorem toPds_ok (S : Store) : ∀ (n : Nat) (xs : List D), okPs n xs = true → optAll (toPd S n) xs = some (pdsOf xs)
  | _, [], _ => rfl
  | n, x :: xs, h => by
    have h : (okP n x && okPs n xs) = true := by cases n <;> exact h
    rw [Bool.and_eq_true] at h
    unfold optAll
    rw [toPd_ok S n x h.1, toPds_ok S n xs h.2]
    rfl
end
mutual
theorem eqv_ok : ∀ (a b : D) (n m : Nat), okP n a = true → okP m b = true → PyData.eqv (pdOf a) (pdOf b) = eqb a b
  | .non, b, n, m, _, h => by cases b <;> first | (cases m <;> cases h; done) | rfl
  | .int i, b, n, m, _, h => by
    cases b <;> first | (cases m <;> cases h; done) | rfl | skip
    all_goals (try (cases m <;> cases h))
    all_goals (simp [pdOf, PyData.eqv, eqb]; try (by_cases e : i = _ <;> simp [e]))
  | .str x, b, n, m, _, h => by
    cases b <;> first | (cases m <;> cases h; done) | rfl | skip
    rename_i y
    simp only [pdOf, PyData.eqv, eqb]
    by_cases e : x = y
    · simp [e]
    · have : ¬ S2 x = S2 y := fun z => e (S2_inj.mp z)
      simp [e, this]
  | .tup xs, b, n, m, ha, h => by
    cases b <;> first | (cases m <;> cases h; done) | rfl | skip
    rename_i ys
    cases n with
    | zero => cases ha
    | succ n =>
      cases m with
      | zero => cases h
      | succ m => exact eqvs_ok xs ys n m ha h
  | .bl _, b, n, m, ha, h => by cases n <;> cases ha
  | .ref _, b, n, m, ha, h => by cases n <;> cases ha
  | .scr _, b, n, m, ha, h => by cases n <;> cases ha
theorem eqvs_ok : ∀ (xs ys : List D) (n m : Nat), okPs n xs = true → okPs m ys = true → PyData.eqvAll (pdsOf xs) (pdsOf ys) = eqbs xs ys
  | [], [], _, _, _, _ => rfl
  | [], _ :: _, _, _, _, _ => rfl
  | _ :: _, [], _, _, _, _ => rfl
  | x :: xs, y :: ys, n, m, h, h' => by
    have h : (okP n x && okPs n xs) = true := by cases n <;> exact h
    have h' : (okP m y && okPs m ys) = true := by cases m <;> exact h'
    rw [Bool.and_eq_true] at h h'
    show (PyData.eqv (pdOf x) (pdOf y) && PyData.eqvAll (pdsOf xs) (pdsOf ys)) = (eqb x y && eqbs xs ys)
    rw [eqv_ok x y n m h.1 h'.1, eqvs_ok xs ys n m h.2 h'.2]
end
theorem eqb_dec (a b : D) : eqb a b = decide (a = b) := by
  by_cases h : a = b
  · subst h; rw [eqb_refl]; simp
  · have : eqb a b ≠ true := fun z => h (eqb_eq a b z)
    simp [h, this]
theorem eqD_ok {a b : D} {S : Store} (h1 : okP 60 a = true) (h2 : okP 60 b = true) : eqD a b S = .ok (.bl (decide (a = b))) S := by
  unfold eqD
  rw [toPd_ok S 60 a h1, toPd_ok S 60 b h2]
  dsimp only
  rw [eqv_ok a b 60 60 h1 h2, eqb_dec]
theorem neD_ok {a b : D} {S : Store} (h1 : okP 60 a = true) (h2 : okP 60 b = true) : neD a b S = .ok (.bl (!decide (a = b))) S := by
  unfold neD
  rw [toPd_ok S 60 a h1, toPd_ok S 60 b h2]
  dsimp only
  rw [eqv_ok a b 60 60 h1 h2, eqb_dec]
mutual
theorem okP_mono : ∀ (n m : Nat) (a : D), n ≤ m → okP n a = true → okP m a = true
  | 0, 0, _, _, h => h
  | n, m, .non, _, _ => by cases m <;> rfl
  | n, m, .int _, _, _ => by cases m <;> rfl
  | n, m, .str _, _, _ => by cases m <;> rfl
  | n + 1, m + 1, .tup xs, hl, h => okPs_mono n m xs (Nat.le_of_succ_le_succ hl) h
  | 0, m, .tup _, _, h => by cases h
  | n + 1, 0, .tup _, hl, _ => absurd hl (Nat.not_succ_le_zero n)
  | n, m, .bl _, _, h => by cases n <;> cases h
  | n, m, .ref _, _, h => by cases n <;> cases h
  | n, m, .scr _, _, h => by cases n <;> cases h
theorem okPs_mono : ∀ (n m : Nat) (xs : List D), n ≤ m → okPs n xs = true → okPs m xs = true
  | n, m, [], _, _ => by cases m <;> rfl
  | n, m, x :: xs, hl, h => by
    have h : (okP n x && okPs n xs) = true := by cases n <;> exact h
    rw [Bool.and_eq_true] at h
    have : (okP m x && okPs m xs) = true := by rw [okP_mono n m x hl h.1, okPs_mono n m xs hl h.2]; rfl
    cases m <;> exact this
end

/-! ### loops -/
/-- the loop over a list of items -/
def loopL (tg : Tg) (body : Mz) : List D → Mz
  | [], rho, S => .nx rho S
  | d :: ds, rho, S => match tgD tg d rho with
    | none => .stuck
    | some r1 => match body r1 S with
      | .nx r S => loopL tg body ds r S
      | .ct r S => loopL tg body ds r S
      | .bk r S => .nx r S
      | r => r
theorem for_items (tg : Tg) (body : Mz) (xs : List D) : ∀ (fuel i : Nat) (rho : En) (S : Store), xs.length ≤ i + fuel → forN (.items xs) tg body fuel i rho S = loopL tg body (xs.drop i) rho S
  | fuel, i, rho, S, h => by
    unfold forN
    show sr1 rho (.ok xs[i]? S) _ = _
    rw [sr1_ok]
    cases e : xs[i]? with
    | none =>
      rw [List.drop_eq_nil_of_le (List.getElem?_eq_none_iff.mp e)]
      rfl
    | some d =>
      have hi := (List.getElem?_eq_some_iff.mp e).1
      have hd : xs.drop i = d :: xs.drop (i + 1) := by
        rw [List.drop_eq_getElem_cons hi]
        congr 1
        exact (List.getElem?_eq_some_iff.mp e).2
      rw [hd]
      cases fuel with
      | zero => omega
      | succ fuel =>
        dsimp only
        show _ = match tgD tg d rho with
          | none => SR.stuck
          | some r1 => match body r1 S with
            | .nx r S => loopL tg body (xs.drop (i + 1)) r S
            | .ct r S => loopL tg body (xs.drop (i + 1)) r S
            | .bk r S => .nx r S
            | r => r
        cases tgD tg d rho with
        | none => rfl
        | some r1 =>
          dsimp only
          cases body r1 S with
          | nx r S1 => exact for_items tg body xs fuel (i + 1) r S1 (by omega)
          | ct r S1 => exact for_items tg body xs fuel (i + 1) r S1 (by omega)
          | _ => rfl
/-- a loop over a list of the store that the body leaves as it is -/
theorem for_live (tg : Tg) (body : Mz) (n : Nat) (xs : List D) (P : Nat → En → Store → Prop) (hP : ∀ i rho S, P i rho S → S[n]? = some (.lst xs))
    (hb : ∀ i d rho r1 S, xs[i]? = some d → P i rho S → tgD tg d rho = some r1 → match body r1 S with
      | .nx r S' => P (i + 1) r S'
      | .ct r S' => P (i + 1) r S'
      | _ => True) : ∀ (fuel i : Nat) (rho : En) (S : Store), P i rho S → xs.length ≤ i + fuel → forN (.live n) tg body fuel i rho S = loopL tg body (xs.drop i) rho S
  | fuel, i, rho, S, hp, h => by
    unfold forN
    have e0 : nextI (.live n) i S = .ok xs[i]? S := by unfold nextI; dsimp only; rw [hP i rho S hp]
    rw [e0, sr1_ok]
    cases e : xs[i]? with
    | none =>
      rw [List.drop_eq_nil_of_le (List.getElem?_eq_none_iff.mp e)]
      rfl
    | some d =>
      have hi := (List.getElem?_eq_some_iff.mp e).1
      have hd : xs.drop i = d :: xs.drop (i + 1) := by
        rw [List.drop_eq_getElem_cons hi]
        congr 1
        exact (List.getElem?_eq_some_iff.mp e).2
      rw [hd]
      cases fuel with
      | zero => omega
      | succ fuel =>
        dsimp only
        show _ = match tgD tg d rho with
          | none => SR.stuck
          | some r1 => match body r1 S with
            | .nx r S => loopL tg body (xs.drop (i + 1)) r S
            | .ct r S => loopL tg body (xs.drop (i + 1)) r S
            | .bk r S => .nx r S
            | r => r
        cases e1 : tgD tg d rho with
        | none => rfl
        | some r1 =>
          dsimp only
          have q := hb i d rho r1 S e hp e1
          cases e2 : body r1 S with
          | nx r S1 => rw [e2] at q; exact for_live tg body n xs P hP hb fuel (i + 1) r S1 q (by omega)
          | ct r S1 => rw [e2] at q; exact for_live tg body n xs P hP hb fuel (i + 1) r S1 q (by omega)
          | _ => rfl
/-- the result of a loop's body, then the loop -/
def stepZ (P : En → Store → Prop) (Z : SR → Prop) : SR → Prop
  | .nx r S => P r S
  | .ct r S => P r S
  | .bk r S => Z (.nx r S)
  | r => Z r
theorem for_rule {it : It} {tg : Tg} {body : Mz} {xs : List D} (P : Nat → En → Store → Prop) {Z : SR → Prop} (hP : ∀ i rho S, P i rho S → nextI it i S = .ok xs[i]? S)
    (step : ∀ i d rho S, xs[i]? = some d → P i rho S → ∃ r1, tgD tg d rho = some r1 ∧ stepZ (P (i + 1)) Z (body r1 S)) (done : ∀ rho S, P xs.length rho S → Z (.nx rho S)) :
    ∀ (fuel i : Nat) (rho : En) (S : Store), P i rho S → i ≤ xs.length → xs.length ≤ i + fuel → Z (forN it tg body fuel i rho S)
  | fuel, i, rho, S, hp, hi, h => by
    unfold forN
    rw [hP i rho S hp, sr1_ok]
    cases e : xs[i]? with
    | none =>
      have : i = xs.length := by have := List.getElem?_eq_none_iff.mp e; omega
      subst this
      exact done rho S hp
    | some d =>
      have hi' := (List.getElem?_eq_some_iff.mp e).1
      cases fuel with
      | zero => omega
      | succ fuel =>
        dsimp only
        obtain ⟨r1, e1, q⟩ := step i d rho S e hp
        rw [e1]
        dsimp only
        cases e2 : body r1 S with
        | nx r S1 => rw [e2] at q; exact for_rule P hP step done fuel (i + 1) r S1 q (by omega) (by omega)
        | ct r S1 => rw [e2] at q; exact for_rule P hP step done fuel (i + 1) r S1 q (by omega) (by omega)
        | bk r S1 => rw [e2] at q; exact q
        | rt d S1 => rw [e2] at q; exact q
        | ex c fs r S1 => rw [e2] at q; exact q
        | stuck => rw [e2] at q; exact q
/-- a comprehension over fixed items: kept and mapped -/
theorem comp_rule {it : It} {tg : Tg} {own : List Nat} {n0 : Nat} {cond : Mx Bool} {elt : Mx D} {rho : En} {xs : List D} (P : Store → Prop) (f : D → Bool) (g : D → D) (hP : ∀ S i, P S → nextI it i S = .ok xs[i]? S)
    (hput : ∀ S acc, P S → P (S.set n0 (.lst acc)))
    (step : ∀ d S, d ∈ xs → P S → ∃ r1, tgD tg d (own.foldr (fun v r => r.set v none) rho) = some r1 ∧ cond r1 S = .ok (f d) S ∧ (f d = true → elt r1 S = .ok (g d) S)) :
    ∀ (fuel i : Nat) (S : Store) (acc : List D), P S → S[n0]? = some (.lst acc) → i ≤ xs.length → xs.length ≤ i + fuel → acc.length + xs.length ≤ sizeLine + i →
      compN it tg own n0 cond elt rho fuel i S = .ok (.ref n0) (S.set n0 (.lst (acc ++ ((xs.drop i).filter f).map g)))
  | fuel, i, S, acc, hp, hn, hi, h, hz => by
    unfold compN
    rw [hP S i hp, bind_ok]
    have hset : S.set n0 (.lst acc) = S := by
      refine List.ext_getElem? fun j => ?_
      by_cases hj : n0 = j
      · subst hj; rw [List.getElem?_set_self (List.getElem?_eq_some_iff.mp hn).1, hn]
      · rw [List.getElem?_set_ne hj]
    cases e : xs[i]? with
    | none =>
      rw [List.drop_eq_nil_of_le (List.getElem?_eq_none_iff.mp e)]
      show Res.ok (D.ref n0) S = _
      simp [hset]
    | some d =>
      have hi' := (List.getElem?_eq_some_iff.mp e).1
      have hd : xs.drop i = d :: xs.drop (i + 1) := by
        rw [List.drop_eq_getElem_cons hi']
        congr 1
        exact (List.getElem?_eq_some_iff.mp e).2
      cases fuel with
      | zero => omega
      | succ fuel =>
        dsimp only
        obtain ⟨r1, e1, e2, e3⟩ := step d S (List.mem_of_getElem? e) hp
        rw [e1]
        dsimp only
        rw [e2, bind_ok, hd]
        cases hf : f d with
        | false =>
          simp only [Bool.false_eq_true, if_false]
          rw [comp_rule P f g hP hput step fuel (i + 1) S acc hp hn (by omega) (by omega) (by omega)]
          simp [List.filter_cons, hf]
        | true =>
          simp only [if_true]
          rw [e3 hf, bind_ok, hn]
          dsimp only
          have hl : acc.length < sizeLine := by omega
          rw [if_pos hl]
          have hlen : n0 < S.length := (List.getElem?_eq_some_iff.mp hn).1
          rw [comp_rule P f g hP hput step fuel (i + 1) (S.set n0 (.lst (acc ++ [g d]))) (acc ++ [g d]) (hput S _ hp) (List.getElem?_set_self hlen) (by omega) (by omega) (by simp; omega)]
          simp [List.filter_cons, hf, List.set_set]
theorem get_app {S T : Store} {n : Nat} {o : O} (h : S[n]? = some o) : (S ++ T)[n]? = some o := by
  rw [List.getElem?_append_left (List.getElem?_eq_some_iff.mp h).1]; exact h
theorem lt_of_get {S : Store} {n : Nat} {o : O} (h : S[n]? = some o) : n < S.length := (List.getElem?_eq_some_iff.mp h).1
/-- [elt for tg in a list if cond], the parts leave the store as it is -/
theorem comp_live {G : Lang} {elt : IE} {tg : Tg} {it : IT} {cond : IO} {own : List Nat} {rho : En} {S0 S : Store} {n : Nat} {xs : List D} (f : D → Bool) (g : D → D) (hi : evT G it rho S0 = .ok (.live n) S) (hn : S[n]? = some (.lst xs)) (hz : xs.length ≤ sizeLine)
    (step : ∀ (d : D) (S' : Store), d ∈ xs → (∀ (j : Nat) (o : O), S[j]? = some o → S'[j]? = some o) → ∃ r1, tgD tg d (own.foldr (fun v r => r.set v none) rho) = some r1 ∧ evC1 G cond r1 S' = .ok (f d) S' ∧ (f d = true → evE G elt r1 S' = .ok (g d) S')) :
    evE G (.comp elt tg it cond own) rho S0 = .ok (.ref S.length) (S ++ [.lst ((xs.filter f).map g)]) := by
  show (evT G it rho S0).bind _ = _
  rw [hi, bind_ok]
  show noX (compN (.live n) tg own S.length (evC1 G cond) (evE G elt) rho (lenI (.live n) (S ++ [.lst []])) 0 (S ++ [.lst []])) = _
  have hn1 : (S ++ [O.lst []])[n]? = some (.lst xs) := get_app hn
  have hl : lenI (.live n) (S ++ [.lst []]) = xs.length := by unfold lenI; dsimp only; rw [hn1]
  have hlt := lt_of_get hn
  rw [hl, comp_rule (xs := xs) (fun (S' : Store) => ∀ (j : Nat) (o : O), S[j]? = some o → S'[j]? = some o) f g (fun S' i hp => by unfold nextI; dsimp only; rw [hp n _ hn]) (fun S' acc hp j o hj => ?_) step xs.length 0 _ [] (fun j o hj => get_app hj) (by simp) (Nat.zero_le _) (by omega) (by simpa using hz)]
  · simp [noX]
  · have := lt_of_get hj
    rw [List.getElem?_set_ne (by omega)]
    exact hp j o hj
theorem comp_items {G : Lang} {elt : IE} {tg : Tg} {it : IT} {cond : IO} {own : List Nat} {rho : En} {S0 S : Store} {xs : List D} (f : D → Bool) (g : D → D) (hi : evT G it rho S0 = .ok (.items xs) S) (hz : xs.length ≤ sizeLine)
    (step : ∀ (d : D) (S' : Store), d ∈ xs → (∀ (j : Nat) (o : O), S[j]? = some o → S'[j]? = some o) → ∃ r1, tgD tg d (own.foldr (fun v r => r.set v none) rho) = some r1 ∧ evC1 G cond r1 S' = .ok (f d) S' ∧ (f d = true → evE G elt r1 S' = .ok (g d) S')) :
    evE G (.comp elt tg it cond own) rho S0 = .ok (.ref S.length) (S ++ [.lst ((xs.filter f).map g)]) := by
  show (evT G it rho S0).bind _ = _
  rw [hi, bind_ok]
  show noX (compN (.items xs) tg own S.length (evC1 G cond) (evE G elt) rho (lenI (.items xs) (S ++ [.lst []])) 0 (S ++ [.lst []])) = _
  rw [show lenI (.items xs) (S ++ [.lst []]) = xs.length from rfl, comp_rule (xs := xs) (fun (S' : Store) => ∀ (j : Nat) (o : O), S[j]? = some o → S'[j]? = some o) f g (fun S' i hp => rfl) (fun S' acc hp j o hj => ?_) step xs.length 0 _ [] (fun j o hj => get_app hj) (by simp) (Nat.zero_le _) (by omega) (by simpa using hz)]
  · simp [noX]
  · have := lt_of_get hj
    rw [List.getElem?_set_ne (by omega)]
    exact hp j o hj
end Bs

set_option Elab.async false
set_option linter.all false
set_option maxRecDepth 100000
set_option maxHeartbeats 0
/-! K70t: the text of law k70 as terms; its head. -/
namespace K70
open PySem PySem.Spec L2 Bs
def top (i : Nat) : Stmt := PySem.Challenge.pw_boundstone_k70_requests_and_answers.main.body.getD i (.Pass ⟨0, 0, 0, 0⟩)
/-- _page -/
def b0 : ISs :=
  .cons (.asg (.name 4) (.comp (.var 6) (.name 6) (.exp (.bi .sorted (.cons (.var 0) .nil))) (.some (.cmp .le (.var 1) (.var 6))) [6])) <|
  .cons (.asg (.name 5) (.var 3)) <|
  .cons (.if_ (.cmp .gt (.bi .len (.cons (.var 4) .nil)) (.var 2)) (.cons (.asg (.name 5) (.idx (.var 4) (.var 2))) .nil) .nil) <|
  .cons (.ret (.tup (.cons (.cst (.str [112, 97, 103, 101])) (.cons (.bi .tuple (.cons (.comp (.tup (.cons (.var 6) (.cons (.idx (.var 0) (.var 6)) .nil))) (.name 6) (.exp (.slc (.var 4) .none (.some (.var 2)))) .none [6]) .nil)) (.cons (.var 5) .nil))))) <|
  .nil
/-- apply -/
def b1 : ISs :=
  .cons (.par2 3 4 (.idx (.var 1) (.cst (.int 0))) (.idx (.var 1) (.cst (.int 1)))) <|
  .cons (.if_ (.cmp .eq (.var 3) (.cst (.str [112, 97, 103, 101]))) (.cons (.ret (.call 0 (.cons (.var 0) (.cons (.var 4) (.cons (.idx (.var 1) (.cst (.int 2))) (.cons (.var 2) .nil)))))) .nil) .nil) <|
  .cons (.if_ (.cmp .eq (.var 3) (.cst (.str [112, 117, 116]))) (.cons (.asgS (.var 0) (.var 4) (.idx (.var 1) (.cst (.int 2)))) (.cons (.ret (.tup (.cons (.cst (.str [100, 111, 110, 101])) .nil))) .nil)) .nil) <|
  .cons (.if_ (.cmp .notin (.var 4) (.var 0)) (.cons (.ret (.tup (.cons (.cst (.str [110, 111, 110, 101])) .nil))) .nil) .nil) <|
  .cons (.if_ (.cmp .eq (.var 3) (.cst (.str [103, 101, 116]))) (.cons (.ret (.tup (.cons (.cst (.str [118, 97, 108, 117, 101])) (.cons (.idx (.var 0) (.var 4)) .nil)))) .nil) .nil) <|
  .cons (.if_ (.cmp .eq (.var 3) (.cst (.str [100, 114, 111, 112]))) (.cons (.del (.var 0) (.var 4)) (.cons (.ret (.tup (.cons (.cst (.str [100, 111, 110, 101])) .nil))) .nil)) .nil) <|
  .cons (.if_ (.cmp .ne (.idx (.var 0) (.var 4)) (.idx (.var 1) (.cst (.int 2)))) (.cons (.ret (.tup (.cons (.cst (.str [111, 116, 104, 101, 114])) (.cons (.idx (.var 0) (.var 4)) .nil)))) .nil) .nil) <|
  .cons (.asgS (.var 0) (.var 4) (.idx (.var 1) (.cst (.int 3)))) <|
  .cons (.ret (.tup (.cons (.cst (.str [100, 111, 110, 101])) .nil))) <|
  .nil
/-- does_request -/
def b2 : ISs :=
  .cons (.ret (.and_ (.cons (.cmp .eq (.idx (.var 0) (.cst (.int 0))) (.cst (.str [100, 111, 110, 101]))) (.cons (.cmp .eq (.idx (.idx (.var 0) (.cst (.int 3))) (.cst (.int 0))) (.cst (.str [100, 105, 100]))) .nil)))) <|
  .nil
/-- request_fault -/
def b3 : ISs :=
  .cons (.asg (.name 1) (.dict0 true)) <|
  .cons (.asg (.name 2) (.dict0 true)) <|
  .cons (.for_ (.name 3) (.exp (.var 0)) (.cons (.if_ (.cmp .eq (.idx (.var 3) (.cst (.int 0))) (.cst (.str [99, 97, 108, 108]))) (.cons (.asgS (.var 1) (.tup (.cons (.idx (.var 3) (.cst (.int 2))) (.cons (.idx (.var 3) (.cst (.int 3))) .nil))) (.idx (.var 3) (.cst (.int 4)))) .nil) .nil) (.cons (.if_ (.call 2 (.cons (.var 3) .nil)) (.cons (.par3 4 5 6 (.idx (.idx (.var 3) (.cst (.int 3))) (.cst (.int 3))) (.idx (.idx (.var 3) (.cst (.int 3))) (.cst (.int 4))) (.idx (.idx (.var 3) (.cst (.int 3))) (.cst (.int 5)))) (.cons (.if_ (.or_ (.cons (.cmp .notin (.tup (.cons (.var 4) (.cons (.var 5) .nil))) (.var 1)) (.cons (.cmp .ne (.idx (.var 1) (.tup (.cons (.var 4) (.cons (.var 5) .nil)))) (.var 6)) .nil))) (.cons (.ret (.tup (.cons (.cst (.str [117, 110, 99, 97, 108, 108, 101, 100])) (.cons (.var 4) (.cons (.var 5) .nil))))) .nil) .nil) (.cons (.if_ (.cmp .isin (.tup (.cons (.var 4) (.cons (.var 5) .nil))) (.var 2)) (.cons (.ret (.tup (.cons (.cst (.str [114, 101, 112, 101, 97, 116, 101, 100])) (.cons (.var 4) (.cons (.var 5) .nil))))) .nil) .nil) (.cons (.asgS (.var 2) (.tup (.cons (.var 4) (.cons (.var 5) .nil))) (.cst (.bl true))) .nil)))) .nil) .nil))) <|
  .cons (.ret (.cst .non)) <|
  .nil
/-- page_fits -/
def b4 : ISs :=
  .cons (.asg (.tup [4, 5, 6]) (.var 1)) <|
  .cons (.if_ (.or_ (.cons (.not_ (.isi (.var 2) .tuple)) (.cons (.cmp .ne (.bi .len (.cons (.var 2) .nil)) (.cst (.int 3))) (.cons (.cmp .ne (.idx (.var 2) (.cst (.int 0))) (.cst (.str [112, 97, 103, 101]))) .nil)))) (.cons (.ret (.cst (.bl false))) .nil) .nil) <|
  .cons (.asg (.tup [4, 7, 8]) (.var 2)) <|
  .cons (.if_ (.and_ (.cons (.isnn (.var 8)) (.cons (.or_ (.cons (.not_ (.isi (.var 8) .str)) (.cons (.cmp .le (.var 8) (.var 5)) .nil))) .nil))) (.cons (.ret (.cst (.bl false))) .nil) .nil) <|
  .cons (.asg (.name 3) (.comp (.tup (.cons (.var 9) (.cons (.idx (.var 0) (.var 9)) .nil))) (.name 9) (.exp (.bi .sorted (.cons (.var 0) .nil))) (.some (.and_ (.cons (.cmp .ge (.var 9) (.var 5)) (.cons (.or_ (.cons (.isn (.var 8)) (.cons (.cmp .lt (.var 9) (.var 8)) .nil))) .nil)))) [9])) <|
  .cons (.ret (.and_ (.cons (.cmp .le (.bi .len (.cons (.var 3) .nil)) (.var 6)) (.cons (.cmp .eq (.var 7) (.bi .tuple (.cons (.var 3) .nil))) .nil)))) <|
  .nil
/-- answer_fault -/
def b5 : ISs :=
  .cons (.asg (.name 1) (.dict0 false)) <|
  .cons (.asg (.name 2) (.dict0 true)) <|
  .cons (.for_ (.name 3) (.exp (.var 0)) (.cons (.if_ (.call 2 (.cons (.var 3) .nil)) (.cons (.asg (.name 4) (.tup (.cons (.idx (.idx (.var 3) (.cst (.int 3))) (.cst (.int 3))) (.cons (.idx (.idx (.var 3) (.cst (.int 3))) (.cst (.int 4))) .nil)))) (.cons (.asg (.name 5) (.idx (.idx (.var 3) (.cst (.int 3))) (.cst (.int 5)))) (.cons (.asg (.name 6) (.bi .dict (.cons (.var 1) .nil))) (.cons (.asg (.name 7) (.call 1 (.cons (.var 1) (.cons (.var 5) (.cons (.cst .non) .nil))))) (.cons (.if_ (.cmp .notin (.var 4) (.var 2)) (.cons (.asgS (.var 2) (.var 4) (.tup (.cons (.var 5) (.cons (.var 7) (.cons (.var 6) .nil))))) .nil) .nil) .nil))))) .nil) (.cons (.if_ (.cmp .eq (.idx (.var 3) (.cst (.int 0))) (.cst (.str [97, 99, 99, 101, 112, 116]))) (.cons (.asg (.name 4) (.tup (.cons (.idx (.var 3) (.cst (.int 2))) (.cons (.idx (.var 3) (.cst (.int 3))) .nil)))) (.cons (.if_ (.cmp .notin (.var 4) (.var 2)) (.cons (.ret (.tup (.cons (.cst (.str [109, 105, 115, 115, 105, 110, 103])) (.cons (.idx (.var 3) (.cst (.int 2))) (.cons (.idx (.var 3) (.cst (.int 3))) .nil))))) .nil) .nil) (.cons (.asg (.tup [5, 7, 6]) (.idx (.var 2) (.var 4))) (.cons (.if_ (.cmp .eq (.idx (.var 5) (.cst (.int 0))) (.cst (.str [112, 97, 103, 101]))) (.cons (.if_ (.not_ (.call 4 (.cons (.var 6) (.cons (.var 5) (.cons (.idx (.var 3) (.cst (.int 4))) .nil))))) (.cons (.ret (.tup (.cons (.cst (.str [97, 110, 115, 119, 101, 114])) (.cons (.idx (.var 3) (.cst (.int 2))) (.cons (.idx (.var 3) (.cst (.int 3))) .nil))))) .nil) .nil) .nil) (.cons (.if_ (.cmp .ne (.idx (.var 3) (.cst (.int 4))) (.var 7)) (.cons (.ret (.tup (.cons (.cst (.str [97, 110, 115, 119, 101, 114])) (.cons (.idx (.var 3) (.cst (.int 2))) (.cons (.idx (.var 3) (.cst (.int 3))) .nil))))) .nil) .nil) .nil)) .nil)))) .nil) .nil))) <|
  .cons (.ret (.cst .non)) <|
  .nil
/-- _law_cell -/
def b6 : ISs :=
  .cons (.if_ (.cmp .lt (.var 1) (.bi .len (.cons (.var 0) .nil))) (.cons (.ret (.idx (.var 0) (.var 1))) .nil) .nil) <|
  .cons (.ret (.cst (.int 0))) <|
  .nil
/-- _law_op -/
def b7 : ISs :=
  .cons (.asg (.name 1) (.idx (.lst (.cons (.cst (.str [97])) (.cons (.cst (.str [98])) (.cons (.cst (.str [98, 97])) (.cons (.cst (.str [99])) .nil))))) (.bin .mod (.bi .int (.cons (.var 0) .nil)) (.cst (.int 4))))) <|
  .cons (.asg (.name 2) (.idx (.lst (.cons (.cst (.str [120])) (.cons (.cst (.str [121])) (.cons (.cst (.str [])) .nil)))) (.bin .mod (.bi .int (.cons (.bin .fdiv (.var 0) (.cst (.int 4))) .nil)) (.cst (.int 3))))) <|
  .cons (.asg (.name 3) (.lst (.cons (.tup (.cons (.cst (.str [112, 117, 116])) (.cons (.var 1) (.cons (.var 2) .nil)))) (.cons (.tup (.cons (.cst (.str [112, 117, 116])) (.cons (.var 1) (.cons (.bin .add (.var 2) (.cst (.str [122]))) .nil)))) (.cons (.tup (.cons (.cst (.str [103, 101, 116])) (.cons (.var 1) .nil))) (.cons (.tup (.cons (.cst (.str [100, 114, 111, 112])) (.cons (.var 1) .nil))) (.cons (.tup (.cons (.cst (.str [115, 119, 97, 112])) (.cons (.var 1) (.cons (.var 2) (.cons (.cst (.str [119])) .nil))))) .nil))))))) <|
  .cons (.asg (.name 3) (.bin .add (.var 3) (.lst (.cons (.tup (.cons (.cst (.str [112, 97, 103, 101])) (.cons (.idx (.lst (.cons (.cst (.str [])) (.cons (.cst (.str [97])) (.cons (.cst (.str [98, 98])) .nil)))) (.bin .mod (.bi .int (.cons (.bin .fdiv (.var 0) (.cst (.int 4))) .nil)) (.cst (.int 3)))) (.cons (.bin .add (.cst (.int 1)) (.bin .mod (.bi .int (.cons (.bin .fdiv (.var 0) (.cst (.int 12))) .nil)) (.cst (.int 4)))) .nil)))) .nil)))) <|
  .cons (.ret (.idx (.var 3) (.bin .mod (.bi .int (.cons (.bin .fdiv (.var 0) (.cst (.int 60))) .nil)) (.cst (.int 6))))) <|
  .nil
/-- _law_answer -/
def b8 : ISs :=
  .cons (.asg (.name 3) (.idx (.var 1) (.cst (.int 1)))) <|
  .cons (.if_ (.cmp .eq (.idx (.var 1) (.cst (.int 0))) (.cst (.str [112, 97, 103, 101]))) (.cons (.asg (.name 4) (.comp (.tup (.cons (.var 6) (.cons (.idx (.var 0) (.var 6)) .nil))) (.name 6) (.exp (.bi .sorted (.cons (.var 0) .nil))) (.some (.cmp .ge (.var 6) (.var 3))) [6])) (.cons (.asg (.name 5) (.idx (.var 1) (.cst (.int 2)))) (.cons (.if_ (.cmp .eq (.bin .mod (.bi .int (.cons (.var 2) .nil)) (.cst (.int 3))) (.cst (.int 0))) (.cons (.asg (.name 5) (.bin .mod (.bi .int (.cons (.bin .fdiv (.var 2) (.cst (.int 3))) .nil)) (.bin .add (.idx (.var 1) (.cst (.int 2))) (.cst (.int 1))))) .nil) .nil) (.cons (.if_ (.cmp .ge (.var 5) (.bi .len (.cons (.var 4) .nil))) (.cons (.ret (.tup (.cons (.cst (.str [112, 97, 103, 101])) (.cons (.bi .tuple (.cons (.var 4) .nil)) (.cons (.idx (.lst (.cons (.cst .non) (.cons (.cst (.str [122, 122])) .nil))) (.bin .mod (.bi .int (.cons (.var 2) .nil)) (.cst (.int 2)))) .nil))))) .nil) .nil) (.cons (.if_ (.cmp .eq (.idx (.idx (.var 4) (.var 5)) (.cst (.int 0))) (.var 3)) (.cons (.ret (.tup (.cons (.cst (.str [112, 97, 103, 101])) (.cons (.bi .tuple (.cons (.slc (.var 4) .none (.some (.cst (.int 1)))) .nil)) (.cons (.bin .add (.var 3) (.cst (.str [97]))) .nil))))) .nil) .nil) (.cons (.ret (.tup (.cons (.cst (.str [112, 97, 103, 101])) (.cons (.bi .tuple (.cons (.slc (.var 4) .none (.some (.var 5))) .nil)) (.cons (.idx (.idx (.var 4) (.var 5)) (.cst (.int 0))) .nil))))) .nil)))))) .nil) <|
  .cons (.if_ (.cmp .eq (.idx (.var 1) (.cst (.int 0))) (.cst (.str [112, 117, 116]))) (.cons (.ret (.tup (.cons (.cst (.str [100, 111, 110, 101])) .nil))) .nil) .nil) <|
  .cons (.if_ (.cmp .notin (.var 3) (.var 0)) (.cons (.ret (.tup (.cons (.cst (.str [110, 111, 110, 101])) .nil))) .nil) .nil) <|
  .cons (.if_ (.cmp .eq (.idx (.var 1) (.cst (.int 0))) (.cst (.str [103, 101, 116]))) (.cons (.ret (.tup (.cons (.cst (.str [118, 97, 108, 117, 101])) (.cons (.idx (.var 0) (.var 3)) .nil)))) .nil) .nil) <|
  .cons (.if_ (.and_ (.cons (.cmp .eq (.idx (.var 1) (.cst (.int 0))) (.cst (.str [115, 119, 97, 112]))) (.cons (.cmp .ne (.idx (.var 0) (.var 3)) (.idx (.var 1) (.cst (.int 2)))) .nil))) (.cons (.ret (.tup (.cons (.cst (.str [111, 116, 104, 101, 114])) (.cons (.idx (.var 0) (.var 3)) .nil)))) .nil) .nil) <|
  .cons (.ret (.tup (.cons (.cst (.str [100, 111, 110, 101])) .nil))) <|
  .nil
/-- _law_change -/
def b9 : ISs :=
  .cons (.if_ (.or_ (.cons (.cmp .eq (.idx (.var 1) (.cst (.int 0))) (.cst (.str [112, 117, 116]))) (.cons (.and_ (.cons (.cmp .eq (.idx (.var 1) (.cst (.int 0))) (.cst (.str [115, 119, 97, 112]))) (.cons (.cmp .eq (.meth (.var 0) [103, 101, 116] (.cons (.idx (.var 1) (.cst (.int 1))) .nil)) (.idx (.var 1) (.cst (.int 2)))) .nil))) .nil))) (.cons (.asgS (.var 0) (.idx (.var 1) (.cst (.int 1))) (.idx (.var 1) (.neg (.cst (.int 1))))) .nil) .nil) <|
  .cons (.if_ (.cmp .eq (.idx (.var 1) (.cst (.int 0))) (.cst (.str [100, 114, 111, 112]))) (.cons (.expr (.meth (.var 0) [112, 111, 112] (.cons (.idx (.var 1) (.cst (.int 1))) (.cons (.cst .non) .nil)))) .nil) .nil) <|
  .nil
/-- _law_event -/
def b10 : ISs :=
  .cons (.asg (.name 3) (.bin .sub (.neg (.cst (.int 1))) (.bin .mod (.bi .int (.cons (.var 1) .nil)) (.cst (.int 3))))) <|
  .cons (.asg (.tup [5, 6, 7]) (.idx (.var 0) (.var 3))) <|
  .cons (.asg (.name 4) (.bin .mod (.bi .int (.cons (.bin .fdiv (.var 1) (.cst (.int 3))) .nil)) (.cst (.int 12)))) <|
  .cons (.asg (.name 1) (.bin .fdiv (.var 1) (.cst (.int 36)))) <|
  .cons (.if_ (.cmp .eq (.var 4) (.cst (.int 0))) (.cons (.ret (.tup (.cons (.cst (.str [100, 111, 110, 101])) (.cons (.var 2) (.cons (.cst (.int 0)) (.cons (.tup (.cons (.cst (.str [100, 105, 100])) (.cons (.cst (.str [])) (.cons (.cst (.int 1)) (.cons (.var 3) (.cons (.bi .max (.cons (.cst (.int 1)) (.cons (.bin .sub (.var 5) (.bin .mod (.bi .int (.cons (.var 1) .nil)) (.cst (.int 2)))) .nil))) (.cons (.call 7 (.cons (.bin .fdiv (.var 1) (.cst (.int 2))) .nil)) .nil))))))) .nil)))))) .nil) .nil) <|
  .cons (.if_ (.cmp .eq (.var 4) (.cst (.int 1))) (.cons (.ret (.tup (.cons (.cst (.str [100, 111, 110, 101])) (.cons (.var 2) (.cons (.cst (.int 1)) (.cons (.tup (.cons (.cst (.str [103, 111, 110, 101])) (.cons (.cst (.str [])) (.cons (.cst .non) (.cons (.cst (.int 2)) .nil))))) .nil)))))) .nil) .nil) <|
  .cons (.if_ (.cmp .eq (.var 4) (.cst (.int 2))) (.cons (.ret (.tup (.cons (.cst (.str [97, 99, 99, 101, 112, 116])) (.cons (.var 2) (.cons (.var 3) (.cons (.var 5) (.cons (.idx (.lst (.cons (.tup (.cons (.cst (.str [110, 111, 110, 101])) .nil)) (.cons (.tup (.cons (.cst (.str [100, 111, 110, 101])) .nil)) (.cons (.tup (.cons (.cst (.str [118, 97, 108, 117, 101])) (.cons (.cst (.str [120])) .nil))) (.cons (.tup (.cons (.cst (.str [112, 97, 103, 101])) (.cons (.tup .nil) (.cons (.cst .non) .nil)))) .nil))))) (.bin .mod (.bi .int (.cons (.var 1) .nil)) (.cst (.int 4)))) .nil))))))) .nil) .nil) <|
  .cons (.if_ (.cmp .eq (.var 7) (.cst (.int 0))) (.cons (.asgS (.var 0) (.var 3) (.tup (.cons (.bin .add (.var 5) (.cst (.int 1))) (.cons (.call 7 (.cons (.var 1) .nil)) (.cons (.cst (.int 1)) .nil))))) (.cons (.ret (.tup (.cons (.cst (.str [99, 97, 108, 108])) (.cons (.var 2) (.cons (.var 3) (.cons (.bin .add (.var 5) (.cst (.int 1))) (.cons (.idx (.idx (.var 0) (.var 3)) (.cst (.int 1))) .nil))))))) .nil)) .nil) <|
  .cons (.if_ (.cmp .eq (.var 7) (.cst (.int 1))) (.cons (.asgS (.var 0) (.var 3) (.tup (.cons (.var 5) (.cons (.var 6) (.cons (.cst (.int 2)) .nil))))) (.cons (.ret (.tup (.cons (.cst (.str [100, 111, 110, 101])) (.cons (.var 2) (.cons (.bin .mod (.bi .int (.cons (.var 1) .nil)) (.cst (.int 3))) (.cons (.tup (.cons (.cst (.str [100, 105, 100])) (.cons (.cst (.str [])) (.cons (.cst (.int 1)) (.cons (.var 3) (.cons (.var 5) (.cons (.var 6) .nil))))))) .nil)))))) .nil)) .nil) <|
  .cons (.asgS (.var 0) (.var 3) (.tup (.cons (.var 5) (.cons (.var 6) (.cons (.cst (.int 0)) .nil))))) <|
  .cons (.ret (.tup (.cons (.cst (.str [97, 99, 99, 101, 112, 116])) (.cons (.var 2) (.cons (.var 3) (.cons (.var 5) (.cons (.cst .non) .nil))))))) <|
  .nil
/-- _law_fits -/
def b11 : ISs :=
  .cons (.if_ (.cmp .ne (.idx (.var 0) (.cst (.int 0))) (.cst (.str [112, 97, 103, 101]))) (.cons (.ret (.cmp .eq (.var 1) (.call 8 (.cons (.var 2) (.cons (.var 0) (.cons (.cst (.int 1)) .nil)))))) .nil) .nil) <|
  .cons (.if_ (.or_ (.cons (.not_ (.isi (.var 1) .tuple)) (.cons (.cmp .ne (.bi .len (.cons (.var 1) .nil)) (.cst (.int 3))) (.cons (.cmp .ne (.idx (.var 1) (.cst (.int 0))) (.cst (.str [112, 97, 103, 101]))) .nil)))) (.cons (.ret (.cst (.bl false))) .nil) .nil) <|
  .cons (.asg (.name 3) (.idx (.var 1) (.cst (.int 2)))) <|
  .cons (.if_ (.and_ (.cons (.isnn (.var 3)) (.cons (.or_ (.cons (.not_ (.isi (.var 3) .str)) (.cons (.cmp .le (.var 3) (.idx (.var 0) (.cst (.int 1)))) .nil))) .nil))) (.cons (.ret (.cst (.bl false))) .nil) .nil) <|
  .cons (.asg (.name 4) (.comp (.tup (.cons (.var 5) (.cons (.idx (.var 2) (.var 5)) .nil))) (.name 5) (.exp (.bi .sorted (.cons (.var 2) .nil))) (.some (.and_ (.cons (.cmp .ge (.var 5) (.idx (.var 0) (.cst (.int 1)))) (.cons (.or_ (.cons (.isn (.var 3)) (.cons (.cmp .lt (.var 5) (.var 3)) .nil))) .nil)))) [5])) <|
  .cons (.ret (.and_ (.cons (.cmp .le (.bi .len (.cons (.var 4) .nil)) (.idx (.var 0) (.cst (.int 2)))) (.cons (.cmp .eq (.idx (.var 1) (.cst (.int 1))) (.bi .tuple (.cons (.var 4) .nil))) .nil)))) <|
  .nil
/-- _law_requests -/
def b12 : ISs :=
  .cons (.for_ (.name 1) (.range1 (.bi .len (.cons (.var 0) .nil))) (.cons (.if_ (.or_ (.cons (.cmp .ne (.idx (.idx (.var 0) (.var 1)) (.cst (.int 0))) (.cst (.str [100, 111, 110, 101]))) (.cons (.cmp .ne (.idx (.idx (.idx (.var 0) (.var 1)) (.cst (.int 3))) (.cst (.int 0))) (.cst (.str [100, 105, 100]))) .nil))) (.cons (.cont) .nil) .nil) (.cons (.asg (.name 2) (.idx (.idx (.var 0) (.var 1)) (.cst (.int 3)))) (.cons (.asg (.name 3) (.cst (.bl false))) (.cons (.asg (.name 4) (.cst (.bl false))) (.cons (.for_ (.name 5) (.exp (.slc (.var 0) .none (.some (.var 1)))) (.cons (.if_ (.and_ (.cons (.cmp .eq (.idx (.var 5) (.cst (.int 0))) (.cst (.str [99, 97, 108, 108]))) (.cons (.cmp .eq (.idx (.var 5) (.cst (.int 2))) (.idx (.var 2) (.cst (.int 3)))) (.cons (.cmp .eq (.idx (.var 5) (.cst (.int 3))) (.idx (.var 2) (.cst (.int 4)))) (.cons (.cmp .eq (.idx (.var 5) (.cst (.int 4))) (.idx (.var 2) (.cst (.int 5)))) .nil))))) (.cons (.asg (.name 3) (.cst (.bl true))) .nil) .nil) (.cons (.if_ (.and_ (.cons (.cmp .eq (.idx (.var 5) (.cst (.int 0))) (.cst (.str [100, 111, 110, 101]))) (.cons (.cmp .eq (.idx (.idx (.var 5) (.cst (.int 3))) (.cst (.int 0))) (.cst (.str [100, 105, 100]))) (.cons (.cmp .eq (.slc (.idx (.var 5) (.cst (.int 3))) (.some (.cst (.int 3))) (.some (.cst (.int 5)))) (.slc (.var 2) (.some (.cst (.int 3))) (.some (.cst (.int 5))))) .nil)))) (.cons (.asg (.name 4) (.cst (.bl true))) .nil) .nil) .nil))) (.cons (.if_ (.not_ (.var 3)) (.cons (.ret (.tup (.cons (.cst (.str [117, 110, 99, 97, 108, 108, 101, 100])) (.cons (.idx (.var 2) (.cst (.int 3))) (.cons (.idx (.var 2) (.cst (.int 4))) .nil))))) .nil) .nil) (.cons (.if_ (.var 4) (.cons (.ret (.tup (.cons (.cst (.str [114, 101, 112, 101, 97, 116, 101, 100])) (.cons (.idx (.var 2) (.cst (.int 3))) (.cons (.idx (.var 2) (.cst (.int 4))) .nil))))) .nil) .nil) .nil)))))))) <|
  .cons (.ret (.cst .non)) <|
  .nil
/-- _law_answers -/
def b13 : ISs :=
  .cons (.for_ (.name 2) (.range1 (.bi .len (.cons (.var 0) .nil))) (.cons (.if_ (.cmp .ne (.idx (.idx (.var 0) (.var 2)) (.cst (.int 0))) (.cst (.str [97, 99, 99, 101, 112, 116]))) (.cons (.cont) .nil) .nil) (.cons (.asg (.name 3) (.cst .non)) (.cons (.for_ (.name 4) (.range1 (.var 2)) (.cons (.if_ (.and_ (.cons (.isn (.var 3)) (.cons (.cmp .eq (.idx (.idx (.var 0) (.var 4)) (.cst (.int 0))) (.cst (.str [100, 111, 110, 101]))) (.cons (.cmp .eq (.idx (.idx (.idx (.var 0) (.var 4)) (.cst (.int 3))) (.cst (.int 0))) (.cst (.str [100, 105, 100]))) .nil)))) (.cons (.if_ (.and_ (.cons (.cmp .eq (.idx (.idx (.idx (.var 0) (.var 4)) (.cst (.int 3))) (.cst (.int 3))) (.idx (.idx (.var 0) (.var 2)) (.cst (.int 2)))) (.cons (.cmp .eq (.idx (.idx (.idx (.var 0) (.var 4)) (.cst (.int 3))) (.cst (.int 4))) (.idx (.idx (.var 0) (.var 2)) (.cst (.int 3)))) .nil))) (.cons (.asg (.name 3) (.var 4)) .nil) .nil) .nil) .nil) .nil)) (.cons (.if_ (.isn (.var 3)) (.cons (.ret (.tup (.cons (.cst (.str [109, 105, 115, 115, 105, 110, 103])) (.cons (.idx (.idx (.var 0) (.var 2)) (.cst (.int 2))) (.cons (.idx (.idx (.var 0) (.var 2)) (.cst (.int 3))) .nil))))) .nil) .nil) (.cons (.if_ (.not_ (.call 11 (.cons (.idx (.idx (.idx (.var 0) (.var 3)) (.cst (.int 3))) (.cst (.int 5))) (.cons (.idx (.idx (.var 0) (.var 2)) (.cst (.int 4))) (.cons (.idx (.var 1) (.var 3)) .nil))))) (.cons (.ret (.tup (.cons (.cst (.str [97, 110, 115, 119, 101, 114])) (.cons (.idx (.idx (.var 0) (.var 2)) (.cst (.int 2))) (.cons (.idx (.idx (.var 0) (.var 2)) (.cst (.int 3))) .nil))))) .nil) .nil) .nil)))))) <|
  .cons (.ret (.cst .non)) <|
  .nil
/-- law -/
def b14 : ISs :=
  .cons (.asg (.name 1) (.disp (.cons (.neg (.cst (.int 1))) (.tup (.cons (.cst (.int 0)) (.cons (.tup (.cons (.cst (.str [103, 101, 116])) (.cons (.cst (.str [97])) .nil))) (.cons (.cst (.int 0)) .nil)))) (.cons (.neg (.cst (.int 2))) (.tup (.cons (.cst (.int 0)) (.cons (.tup (.cons (.cst (.str [103, 101, 116])) (.cons (.cst (.str [97])) .nil))) (.cons (.cst (.int 0)) .nil)))) (.cons (.neg (.cst (.int 3))) (.tup (.cons (.cst (.int 0)) (.cons (.tup (.cons (.cst (.str [103, 101, 116])) (.cons (.cst (.str [97])) .nil))) (.cons (.cst (.int 0)) .nil)))) .nil))))) <|
  .cons (.asg (.name 2) (.dict0 false)) <|
  .cons (.asg (.name 3) (.lst .nil)) <|
  .cons (.asg (.name 4) (.lst .nil)) <|
  .cons (.asg (.name 5) (.dict0 true)) <|
  .cons (.for_ (.name 6) (.exp (.slc (.var 0) .none (.some (.cst (.int 30))))) (.cons (.asg (.name 8) (.call 10 (.cons (.var 1) (.cons (.var 6) (.cons (.bi .len (.cons (.var 3) .nil)) .nil))))) (.cons (.expr (.meth (.var 4) [97, 112, 112, 101, 110, 100] (.cons (.bi .dict (.cons (.var 2) .nil)) .nil))) (.cons (.if_ (.and_ (.cons (.cmp .eq (.idx (.var 8) (.cst (.int 0))) (.cst (.str [100, 111, 110, 101]))) (.cons (.cmp .eq (.idx (.idx (.var 8) (.cst (.int 3))) (.cst (.int 0))) (.cst (.str [100, 105, 100]))) .nil))) (.cons (.asg (.name 9) (.tup (.cons (.idx (.idx (.var 8) (.cst (.int 3))) (.cst (.int 3))) (.cons (.idx (.idx (.var 8) (.cst (.int 3))) (.cst (.int 4))) .nil)))) (.cons (.if_ (.cmp .notin (.var 9) (.var 5)) (.cons (.asgS (.var 5) (.var 9) (.call 8 (.cons (.var 2) (.cons (.idx (.idx (.var 8) (.cst (.int 3))) (.cst (.int 5))) (.cons (.bin .fdiv (.var 6) (.cst (.int 7))) .nil))))) .nil) .nil) (.cons (.expr (.call 9 (.cons (.var 2) (.cons (.idx (.idx (.var 8) (.cst (.int 3))) (.cst (.int 5))) .nil)))) .nil))) .nil) (.cons (.if_ (.and_ (.cons (.cmp .eq (.idx (.var 8) (.cst (.int 0))) (.cst (.str [97, 99, 99, 101, 112, 116]))) (.cons (.isn (.idx (.var 8) (.cst (.int 4)))) .nil))) (.cons (.asg (.name 8) (.bin .add (.slc (.var 8) .none (.some (.cst (.int 4)))) (.tup (.cons (.meth (.var 5) [103, 101, 116] (.cons (.tup (.cons (.idx (.var 8) (.cst (.int 2))) (.cons (.idx (.var 8) (.cst (.int 3))) .nil))) (.cons (.tup (.cons (.cst (.str [110, 111, 110, 101])) .nil)) .nil))) .nil)))) .nil) .nil) (.cons (.expr (.meth (.var 3) [97, 112, 112, 101, 110, 100] (.cons (.var 8) .nil))) .nil)))))) <|
  .cons (.asg (.name 7) (.bi .list (.cons (.var 3) .nil))) <|
  .cons (.if_ (.or_ (.cons (.cmp .ne (.call 3 (.cons (.var 7) .nil)) (.call 12 (.cons (.var 3) .nil))) (.cons (.cmp .ne (.call 5 (.cons (.var 7) .nil)) (.call 13 (.cons (.var 3) (.cons (.var 4) .nil)))) .nil))) (.cons (.ret (.cst (.bl false))) .nil) .nil) <|
  .cons (.ret (.and_ (.cons (.cmp .eq (.var 7) (.var 3)) (.cons (.isn (.call 3 (.cons (.lst .nil) .nil))) (.cons (.isn (.call 5 (.cons (.lst .nil) .nil))) .nil))))) <|
  .nil
def d0 : Df := ⟨"_page", "_page", ["items", "low", "limit", "high", "found", "following", "key"], ["items", "low", "limit", "high"], b0, defArgs (top 1), defBody (top 1), defScope (top 1)⟩
def d1 : Df := ⟨"apply", "apply", ["items", "op", "high", "kind", "key"], ["items", "op", "high"], b1, defArgs (top 2), defBody (top 2), defScope (top 2)⟩
def d2 : Df := ⟨"does_request", "does_request", ["event"], ["event"], b2, defArgs (top 4), defBody (top 4), defScope (top 4)⟩
def d3 : Df := ⟨"request_fault", "request_fault", ["events", "called", "done", "event", "client", "number", "operation"], ["events"], b3, defArgs (top 5), defBody (top 5), defScope (top 5)⟩
def d4 : Df := ⟨"page_fits", "page_fits", ["items", "operation", "answer", "due", "_", "low", "limit", "pairs", "after", "key"], ["items", "operation", "answer"], b4, defArgs (top 6), defBody (top 6), defScope (top 6)⟩
def d5 : Df := ⟨"answer_fault", "answer_fault", ["events", "items", "done", "event", "key", "operation", "before", "answer"], ["events"], b5, defArgs (top 7), defBody (top 7), defScope (top 7)⟩
def d6 : Df := ⟨"_law_cell", "_law_cell", ["_law_script", "_law_k"], ["_law_script", "_law_k"], b6, defArgs (top 9), defBody (top 9), defScope (top 9)⟩
def d7 : Df := ⟨"_law_op", "_law_op", ["_law_cell_here", "_law_key", "_law_value", "_law_kinds"], ["_law_cell_here"], b7, defArgs (top 10), defBody (top 10), defScope (top 10)⟩
def d8 : Df := ⟨"_law_answer", "_law_answer", ["_law_items", "_law_op_here", "_law_cell_here", "_law_key", "_law_found", "_law_many", "_law_one"], ["_law_items", "_law_op_here", "_law_cell_here"], b8, defArgs (top 11), defBody (top 11), defScope (top 11)⟩
def d9 : Df := ⟨"_law_change", "_law_change", ["_law_items", "_law_op_here"], ["_law_items", "_law_op_here"], b9, defArgs (top 12), defBody (top 12), defScope (top 12)⟩
def d10 : Df := ⟨"_law_event", "_law_event", ["_law_state", "_law_cell_here", "_law_time", "_law_client", "_law_luck", "_law_number", "_law_op_here", "_law_step"], ["_law_state", "_law_cell_here", "_law_time"], b10, defArgs (top 13), defBody (top 13), defScope (top 13)⟩
def d11 : Df := ⟨"_law_fits", "_law_fits", ["_law_op_here", "_law_answer_here", "_law_items", "_law_after", "_law_due", "_law_key"], ["_law_op_here", "_law_answer_here", "_law_items"], b11, defArgs (top 14), defBody (top 14), defScope (top 14)⟩
def d12 : Df := ⟨"_law_requests", "_law_requests", ["_law_events", "_law_k", "_law_record", "_law_called", "_law_again", "_law_other"], ["_law_events"], b12, defArgs (top 15), defBody (top 15), defScope (top 15)⟩
def d13 : Df := ⟨"_law_answers", "_law_answers", ["_law_events", "_law_befores", "_law_k", "_law_found", "_law_j"], ["_law_events", "_law_befores"], b13, defArgs (top 16), defBody (top 16), defScope (top 16)⟩
def d14 : Df := ⟨"law", "law", ["_law_script", "_law_state", "_law_items", "_law_events", "_law_befores", "_law_told", "_law_cell_here", "_law_handed", "_law_event_here", "_law_key"], ["_law_script"], b14, defArgs (top 17), defBody (top 17), defScope (top 17)⟩
def prg : Prg := ⟨[d0, d1, d2, d3, d4, d5, d6, d7, d8, d9, d10, d11, d12, d13, d14], 15, fun _ _ => none, fun _ => none, fun _ => [], fun _ _ => false, fun _ => [], 0, [], ["dict", "int", "isinstance", "len", "list", "max", "range", "sorted", "str", "tuple"], []⟩
theorem prg_ok : prg.ok = true := by decide +kernel
def h0 : He.DefD := ⟨("_page", none), "_page", "_page", defArgs (top 1), defBody (top 1), defScope (top 1), [], []⟩
def h1 : He.DefD := ⟨("apply", none), "apply", "apply", defArgs (top 2), defBody (top 2), defScope (top 2), [], []⟩
def h2 : He.DefD := ⟨("does_request", none), "does_request", "does_request", defArgs (top 4), defBody (top 4), defScope (top 4), [], []⟩
def h3 : He.DefD := ⟨("request_fault", none), "request_fault", "request_fault", defArgs (top 5), defBody (top 5), defScope (top 5), [], []⟩
def h4 : He.DefD := ⟨("page_fits", none), "page_fits", "page_fits", defArgs (top 6), defBody (top 6), defScope (top 6), [], []⟩
def h5 : He.DefD := ⟨("answer_fault", none), "answer_fault", "answer_fault", defArgs (top 7), defBody (top 7), defScope (top 7), [], []⟩
def h6 : He.DefD := ⟨("_law_cell", none), "_law_cell", "_law_cell", defArgs (top 9), defBody (top 9), defScope (top 9), [], []⟩
def h7 : He.DefD := ⟨("_law_op", none), "_law_op", "_law_op", defArgs (top 10), defBody (top 10), defScope (top 10), [], []⟩
def h8 : He.DefD := ⟨("_law_answer", none), "_law_answer", "_law_answer", defArgs (top 11), defBody (top 11), defScope (top 11), [], []⟩
def h9 : He.DefD := ⟨("_law_change", none), "_law_change", "_law_change", defArgs (top 12), defBody (top 12), defScope (top 12), [], []⟩
def h10 : He.DefD := ⟨("_law_event", none), "_law_event", "_law_event", defArgs (top 13), defBody (top 13), defScope (top 13), [], []⟩
def h11 : He.DefD := ⟨("_law_fits", none), "_law_fits", "_law_fits", defArgs (top 14), defBody (top 14), defScope (top 14), [], []⟩
def h12 : He.DefD := ⟨("_law_requests", none), "_law_requests", "_law_requests", defArgs (top 15), defBody (top 15), defScope (top 15), [], []⟩
def h13 : He.DefD := ⟨("_law_answers", none), "_law_answers", "_law_answers", defArgs (top 16), defBody (top 16), defScope (top 16), [], []⟩
def h14 : He.DefD := ⟨("law", none), "law", "law", defArgs (top 17), defBody (top 17), defScope (top 17), [], []⟩
def fn : List He.DefD := [h0, h1, h2, h3, h4, h5, h6, h7, h8, h9, h10, h11, h12, h13, h14]
def fa : List He.Fa := [.glo "_page", .glo "apply", .glo "does_request", .glo "request_fault", .glo "page_fits", .glo "answer_fault", .glo "_law_cell", .glo "_law_op", .glo "_law_answer", .glo "_law_change", .glo "_law_event", .glo "_law_fits", .glo "_law_requests", .glo "_law_answers", .glo "law", .free "dict", .free "int", .free "isinstance", .free "len", .free "list", .free "max", .free "range", .free "sorted", .free "str", .free "tuple"]
theorem bi0 {K : PySem.W.Frag} {f : Addr} {fd : FuncData} (F : FunD K d0.name d0.qual d0.args d0.ast d0.scope [] [] f fd) : Binds K fd d0.ps [] := F.bindsN fun _ _ _ _ _ _ us hl => match us, hl with | [_, _, _, _], _ => rfl
theorem bi1 {K : PySem.W.Frag} {f : Addr} {fd : FuncData} (F : FunD K d1.name d1.qual d1.args d1.ast d1.scope [] [] f fd) : Binds K fd d1.ps [] := F.bindsN fun _ _ _ _ _ _ us hl => match us, hl with | [_, _, _], _ => rfl
theorem bi2 {K : PySem.W.Frag} {f : Addr} {fd : FuncData} (F : FunD K d2.name d2.qual d2.args d2.ast d2.scope [] [] f fd) : Binds K fd d2.ps [] := F.bindsN fun _ _ _ _ _ _ us hl => match us, hl with | [_], _ => rfl
theorem bi3 {K : PySem.W.Frag} {f : Addr} {fd : FuncData} (F : FunD K d3.name d3.qual d3.args d3.ast d3.scope [] [] f fd) : Binds K fd d3.ps [] := F.bindsN fun _ _ _ _ _ _ us hl => match us, hl with | [_], _ => rfl
theorem bi4 {K : PySem.W.Frag} {f : Addr} {fd : FuncData} (F : FunD K d4.name d4.qual d4.args d4.ast d4.scope [] [] f fd) : Binds K fd d4.ps [] := F.bindsN fun _ _ _ _ _ _ us hl => match us, hl with | [_, _, _], _ => rfl
theorem bi5 {K : PySem.W.Frag} {f : Addr} {fd : FuncData} (F : FunD K d5.name d5.qual d5.args d5.ast d5.scope [] [] f fd) : Binds K fd d5.ps [] := F.bindsN fun _ _ _ _ _ _ us hl => match us, hl with | [_], _ => rfl
theorem bi6 {K : PySem.W.Frag} {f : Addr} {fd : FuncData} (F : FunD K d6.name d6.qual d6.args d6.ast d6.scope [] [] f fd) : Binds K fd d6.ps [] := F.bindsN fun _ _ _ _ _ _ us hl => match us, hl with | [_, _], _ => rfl
theorem bi7 {K : PySem.W.Frag} {f : Addr} {fd : FuncData} (F : FunD K d7.name d7.qual d7.args d7.ast d7.scope [] [] f fd) : Binds K fd d7.ps [] := F.bindsN fun _ _ _ _ _ _ us hl => match us, hl with | [_], _ => rfl
theorem bi8 {K : PySem.W.Frag} {f : Addr} {fd : FuncData} (F : FunD K d8.name d8.qual d8.args d8.ast d8.scope [] [] f fd) : Binds K fd d8.ps [] := F.bindsN fun _ _ _ _ _ _ us hl => match us, hl with | [_, _, _], _ => rfl
theorem bi9 {K : PySem.W.Frag} {f : Addr} {fd : FuncData} (F : FunD K d9.name d9.qual d9.args d9.ast d9.scope [] [] f fd) : Binds K fd d9.ps [] := F.bindsN fun _ _ _ _ _ _ us hl => match us, hl with | [_, _], _ => rfl
theorem bi10 {K : PySem.W.Frag} {f : Addr} {fd : FuncData} (F : FunD K d10.name d10.qual d10.args d10.ast d10.scope [] [] f fd) : Binds K fd d10.ps [] := F.bindsN fun _ _ _ _ _ _ us hl => match us, hl with | [_, _, _], _ => rfl
theorem bi11 {K : PySem.W.Frag} {f : Addr} {fd : FuncData} (F : FunD K d11.name d11.qual d11.args d11.ast d11.scope [] [] f fd) : Binds K fd d11.ps [] := F.bindsN fun _ _ _ _ _ _ us hl => match us, hl with | [_, _, _], _ => rfl
theorem bi12 {K : PySem.W.Frag} {f : Addr} {fd : FuncData} (F : FunD K d12.name d12.qual d12.args d12.ast d12.scope [] [] f fd) : Binds K fd d12.ps [] := F.bindsN fun _ _ _ _ _ _ us hl => match us, hl with | [_], _ => rfl
theorem bi13 {K : PySem.W.Frag} {f : Addr} {fd : FuncData} (F : FunD K d13.name d13.qual d13.args d13.ast d13.scope [] [] f fd) : Binds K fd d13.ps [] := F.bindsN fun _ _ _ _ _ _ us hl => match us, hl with | [_, _], _ => rfl
theorem bi14 {K : PySem.W.Frag} {f : Addr} {fd : FuncData} (F : FunD K d14.name d14.qual d14.args d14.ast d14.scope [] [] f fd) : Binds K fd d14.ps [] := F.bindsN fun _ _ _ _ _ _ us hl => match us, hl with | [_], _ => rfl
theorem top_ok {K : PySem.W.Frag} {h : Heap} {mg : Str → Option Value} (X : K.In h) (G : h.Ns mainGlobals mg) (c : He.SaysD fa fn K) : Top prg K mg (fun _ => 0) := by
  refine ⟨fun i d hi hd => ?_, fun c x h => (by cases h), fun c m f h => (by cases h), fun c f h => (by cases h), fun c f h => (by cases h), fun x hx => ?_, fun x d h => (by cases h)⟩
  · have hi : i < 15 := hi
    match i, hi, hd with
    | 0, _, hd => cases hd; obtain ⟨fd, F⟩ := c.def_ 0 (d := h0) rfl; exact ⟨_, fd, He.glo_ok X G (c.fact 0 (f := .glo "_page") rfl), F, bi0 F⟩
    | 1, _, hd => cases hd; obtain ⟨fd, F⟩ := c.def_ 1 (d := h1) rfl; exact ⟨_, fd, He.glo_ok X G (c.fact 1 (f := .glo "apply") rfl), F, bi1 F⟩
    | 2, _, hd => cases hd; obtain ⟨fd, F⟩ := c.def_ 2 (d := h2) rfl; exact ⟨_, fd, He.glo_ok X G (c.fact 2 (f := .glo "does_request") rfl), F, bi2 F⟩
    | 3, _, hd => cases hd; obtain ⟨fd, F⟩ := c.def_ 3 (d := h3) rfl; exact ⟨_, fd, He.glo_ok X G (c.fact 3 (f := .glo "request_fault") rfl), F, bi3 F⟩
    | 4, _, hd => cases hd; obtain ⟨fd, F⟩ := c.def_ 4 (d := h4) rfl; exact ⟨_, fd, He.glo_ok X G (c.fact 4 (f := .glo "page_fits") rfl), F, bi4 F⟩
    | 5, _, hd => cases hd; obtain ⟨fd, F⟩ := c.def_ 5 (d := h5) rfl; exact ⟨_, fd, He.glo_ok X G (c.fact 5 (f := .glo "answer_fault") rfl), F, bi5 F⟩
    | 6, _, hd => cases hd; obtain ⟨fd, F⟩ := c.def_ 6 (d := h6) rfl; exact ⟨_, fd, He.glo_ok X G (c.fact 6 (f := .glo "_law_cell") rfl), F, bi6 F⟩
    | 7, _, hd => cases hd; obtain ⟨fd, F⟩ := c.def_ 7 (d := h7) rfl; exact ⟨_, fd, He.glo_ok X G (c.fact 7 (f := .glo "_law_op") rfl), F, bi7 F⟩
    | 8, _, hd => cases hd; obtain ⟨fd, F⟩ := c.def_ 8 (d := h8) rfl; exact ⟨_, fd, He.glo_ok X G (c.fact 8 (f := .glo "_law_answer") rfl), F, bi8 F⟩
    | 9, _, hd => cases hd; obtain ⟨fd, F⟩ := c.def_ 9 (d := h9) rfl; exact ⟨_, fd, He.glo_ok X G (c.fact 9 (f := .glo "_law_change") rfl), F, bi9 F⟩
    | 10, _, hd => cases hd; obtain ⟨fd, F⟩ := c.def_ 10 (d := h10) rfl; exact ⟨_, fd, He.glo_ok X G (c.fact 10 (f := .glo "_law_event") rfl), F, bi10 F⟩
    | 11, _, hd => cases hd; obtain ⟨fd, F⟩ := c.def_ 11 (d := h11) rfl; exact ⟨_, fd, He.glo_ok X G (c.fact 11 (f := .glo "_law_fits") rfl), F, bi11 F⟩
    | 12, _, hd => cases hd; obtain ⟨fd, F⟩ := c.def_ 12 (d := h12) rfl; exact ⟨_, fd, He.glo_ok X G (c.fact 12 (f := .glo "_law_requests") rfl), F, bi12 F⟩
    | 13, _, hd => cases hd; obtain ⟨fd, F⟩ := c.def_ 13 (d := h13) rfl; exact ⟨_, fd, He.glo_ok X G (c.fact 13 (f := .glo "_law_answers") rfl), F, bi13 F⟩
    | 14, _, hd => cases hd; obtain ⟨fd, F⟩ := c.def_ 14 (d := h14) rfl; exact ⟨_, fd, He.glo_ok X G (c.fact 14 (f := .glo "law") rfl), F, bi14 F⟩
    | k + 15, hi, _ => omega
  · have hx : x ∈ (["dict", "int", "isinstance", "len", "list", "max", "range", "sorted", "str", "tuple"] : List Str) := hx
    simp only [List.mem_cons, List.not_mem_nil, or_false] at hx
    rcases hx with rfl | rfl | rfl | rfl | rfl | rfl | rfl | rfl | rfl | rfl
    · exact He.free_ok X G (c.fact 15 (f := .free "dict") rfl)
    · exact He.free_ok X G (c.fact 16 (f := .free "int") rfl)
    · exact He.free_ok X G (c.fact 17 (f := .free "isinstance") rfl)
    · exact He.free_ok X G (c.fact 18 (f := .free "len") rfl)
    · exact He.free_ok X G (c.fact 19 (f := .free "list") rfl)
    · exact He.free_ok X G (c.fact 20 (f := .free "max") rfl)
    · exact He.free_ok X G (c.fact 21 (f := .free "range") rfl)
    · exact He.free_ok X G (c.fact 22 (f := .free "sorted") rfl)
    · exact He.free_ok X G (c.fact 23 (f := .free "str") rfl)
    · exact He.free_ok X G (c.fact 24 (f := .free "tuple") rfl)
end K70

set_option Elab.async false
set_option linter.all false
set_option maxRecDepth 100000
set_option maxHeartbeats 2000000
/-! K70a: what the judge's functions do, over data: apply, page_fits. -/
namespace K70
open PySem PySem.Spec L2 Bs
abbrev Sx := List Nat
inductive Op where
  | put (k v : Sx)
  | get (k : Sx)
  | drop (k : Sx)
  | swap (k a b : Sx)
  | page (low : Sx) (lim : Int)
def Op.d : Op → Bs.D
  | .put k v => .tup [.str [112, 117, 116], .str k, .str v]
  | .get k => .tup [.str [103, 101, 116], .str k]
  | .drop k => .tup [.str [100, 114, 111, 112], .str k]
  | .swap k a b => .tup [.str [115, 119, 97, 112], .str k, .str a, .str b]
  | .page low lim => .tup [.str [112, 97, 103, 101], .str low, .int lim]
/-- items -/
abbrev Kv := List (Sx × Sx)
def kvD (m : Kv) : List (Bs.D × Bs.D) := m.map fun p => (.str p.1, .str p.2)
def kget (m : Kv) (k : Sx) : Option Sx := (m.find? fun p => decide (p.1 = k)).map (·.2)
def kput (m : Kv) (k v : Sx) : Kv := if (m.any fun p => decide (p.1 = k)) = true then m.map (fun p => if p.1 = k then (p.1, v) else p) else m ++ [(k, v)]
def kdrop (m : Kv) (k : Sx) : Kv := m.filter fun p => decide (p.1 ≠ k)
theorem dget_kv (m : Kv) (k : Sx) : dget (kvD m) (.str k) = (kget m k).map .str := by
  unfold dget kvD kget
  induction m with
  | nil => rfl
  | cons p r ih =>
    simp only [List.map_cons, List.find?_cons]
    by_cases e : p.1 = k
    · simp [e]
    · simp only [Bs.D.str.injEq, e, decide_false]
      exact ih
theorem dput_kv (m : Kv) (k v : Sx) : dput (kvD m) (.str k) (.str v) = kvD (kput m k v) := by
  have h : ((kvD m).any fun kv => decide (kv.1 = .str k)) = (m.any fun p => decide (p.1 = k)) := by
    unfold kvD
    rw [List.any_map]
    congr 1
    funext p
    simp
  unfold dput kput
  rw [h]
  by_cases e : (m.any fun p => decide (p.1 = k)) = true
  · rw [if_pos e, if_pos e]
    unfold kvD
    simp only [List.map_map]
    congr 1
    funext p
    simp only [Function.comp, Bs.D.str.injEq]
    split <;> rfl
  · rw [if_neg e, if_neg e]
    simp [kvD]
theorem ddrop_kv (m : Kv) (k : Sx) : ddrop (kvD m) (.str k) = kvD (kdrop m k) := by
  unfold ddrop kdrop kvD
  rw [List.filter_map]
  congr 2
  funext p
  simp
theorem kput_len (m : Kv) (k v : Sx) : (kput m k v).length ≤ m.length + 1 := by
  unfold kput
  split <;> simp
theorem kdrop_len (m : Kv) (k : Sx) : (kdrop m k).length ≤ m.length := List.length_filter_le _ _
def ansOf (m : Kv) : Op → Bs.D
  | .put _ _ => .tup [.str [100, 111, 110, 101]]
  | .get k => match kget m k with
    | none => .tup [.str [110, 111, 110, 101]]
    | some v => .tup [.str [118, 97, 108, 117, 101], .str v]
  | .drop k => match kget m k with
    | none => .tup [.str [110, 111, 110, 101]]
    | some _ => .tup [.str [100, 111, 110, 101]]
  | .swap k a _ => match kget m k with
    | none => .tup [.str [110, 111, 110, 101]]
    | some v => if v = a then .tup [.str [100, 111, 110, 101]] else .tup [.str [111, 116, 104, 101, 114], .str v]
  | .page _ _ => .non
def chg (m : Kv) : Op → Kv
  | .put k v => kput m k v
  | .drop k => match kget m k with
    | none => m
    | some _ => kdrop m k
  | .swap k a b => if kget m k = some a then kput m k b else m
  | _ => m
def Op.isPage : Op → Bool
  | .page _ _ => true
  | _ => false
theorem okop (op : Op) : okP 2 op.d = true := by cases op <;> rfl
section
variable {G : Lang}
theorem set_same (S : Store) (n : Nat) (o : O) (h : S[n]? = some o) : S.set n o = S := by
  refine List.ext_getElem? fun j => ?_
  by_cases hj : n = j
  · subst hj; rw [List.getElem?_set_self (List.getElem?_eq_some_iff.mp h).1, h]
  · rw [List.getElem?_set_ne hj]
/-- apply, but pages -/
theorem apply_ok {S : Store} {r : Nat} {m : Kv} {op : Op} {hi : Bs.D} (hr : S[r]? = some (.dic false (kvD m))) (hm : m.length < 1000) (hp : op.isPage = false) :
    runBody G 5 3 b1 [.ref r, op.d, hi] S = .ok (ansOf m op) (S.set r (.dic false (kvD (chg m op)))) := by
  have hlt : r < S.length := (List.getElem?_eq_some_iff.mp hr).1
  have hl : (kvD m).length < sizeLine := by
    have : (1000 : Nat) ≤ sizeLine := by decide
    unfold kvD
    rw [List.length_map]
    omega
  have E : ∀ (a b : Sx) (S : Store), eqD (.str a) (.str b) S = .ok (.bl (decide (a = b))) S := fun a b S => by rw [eqD_ok rfl rfl]; simp
  have Ne : ∀ (a b : Sx) (S : Store), neD (.str a) (.str b) S = .ok (.bl (!decide (a = b))) S := fun a b S => by rw [neD_ok rfl rfl]; simp
  have z1 : (1 : Nat) ≤ sizeLine := by decide
  have z2 : (2 : Nat) ≤ sizeLine := by decide
  have hs := set_same S r _ hr
  cases op with
  | page low lim => cases hp
  | put k v =>
    simp [runBody, b1, evSs, evS, evE, evEs, ev2, ev1, evVar, evC, startE, idxD, cmpD, E, truD, optD, atI, ixN, Op.d, setD, hr, isKey, hl, putS, dput_kv, ansOf, chg, z1]
  | get k =>
    cases e : kget m k with
    | none => simp [runBody, b1, evSs, evS, evE, evEs, ev2, ev1, evVar, evC, startE, idxD, cmpD, E, truD, optD, atI, ixN, Op.d, setD, hr, isKey, hl, putS, dput_kv, ansOf, chg, z1, inD, dget_kv, e, hs]
    | some v => simp [runBody, b1, evSs, evS, evE, evEs, ev2, ev1, evVar, evC, startE, idxD, cmpD, E, truD, optD, atI, ixN, Op.d, setD, hr, isKey, hl, putS, dput_kv, ansOf, chg, z1, z2, inD, dget_kv, e, hs]
  | drop k =>
    cases e : kget m k with
    | none => simp [runBody, b1, evSs, evS, evE, evEs, ev2, ev1, evVar, evC, startE, idxD, cmpD, E, truD, optD, atI, ixN, Op.d, setD, hr, isKey, hl, putS, dput_kv, ansOf, chg, z1, inD, dget_kv, e, hs]
    | some v => simp [runBody, b1, evSs, evS, evE, evEs, ev2, ev1, evVar, evC, startE, idxD, cmpD, E, truD, optD, atI, ixN, Op.d, setD, hr, isKey, hl, putS, dput_kv, ansOf, chg, z1, z2, inD, dget_kv, e, hs, delD, ddrop_kv]
  | swap k a b =>
    cases e : kget m k with
    | none => simp [runBody, b1, evSs, evS, evE, evEs, ev2, ev1, evVar, evC, startE, idxD, cmpD, E, truD, optD, atI, ixN, Op.d, setD, hr, isKey, hl, putS, dput_kv, ansOf, chg, z1, inD, dget_kv, e, hs]
    | some v =>
      by_cases ev : v = a
      · simp [runBody, b1, evSs, evS, evE, evEs, ev2, ev1, evVar, evC, startE, idxD, cmpD, E, Ne, truD, optD, atI, ixN, Op.d, setD, hr, isKey, hl, putS, dput_kv, ansOf, chg, z1, z2, inD, dget_kv, e, ev, hs]
      · simp [runBody, b1, evSs, evS, evE, evEs, ev2, ev1, evVar, evC, startE, idxD, cmpD, E, Ne, truD, optD, atI, ixN, Op.d, setD, hr, isKey, hl, putS, dput_kv, ansOf, chg, z1, z2, inD, dget_kv, e, ev, hs]
end
end K70

set_option Elab.async false
set_option linter.all false
set_option maxRecDepth 100000
set_option maxHeartbeats 2000000
/-! K70b: pages. -/
namespace K70
open PySem PySem.Spec L2 Bs
def keysOf (m : Kv) : List Bs.D := (isort leS (m.map (·.1))).map .str
theorem strs_map (zs : List Sx) : Bs.strs? (zs.map .str) = some zs := by
  unfold Bs.strs?
  induction zs with
  | nil => rfl
  | cons z r ih => simp only [List.map_cons, optAll]; rw [ih]
theorem sorted_kv {S : Store} {r : Nat} {m : Kv} {lk : Bool} (hr : S[r]? = some (.dic lk (kvD m))) (hm : m.length < 64) : biD .sorted [.ref r] S = alloc (.lst (keysOf m)) S := by
  have hw : walkS (.ref r) S = some ((m.map (·.1)).map .str) := by
    unfold walkS notTup walkD
    simp only [if_true]
    rw [hr]
    simp [kvD, Function.comp]
  have hs : sortL ((m.map (·.1)).map .str) = some (keysOf m) := by
    unfold sortL
    rw [if_neg (by simp; omega), strs_map]
    cases m with
    | nil => rfl
    | cons p r => rfl
  show (match (walkS (.ref r) S).bind sortL with
    | some xs => alloc (.lst xs) S
    | none => .stuck) = _
  rw [hw]
  show (match sortL _ with
    | some xs => alloc (.lst xs) S
    | none => .stuck) = _
  rw [hs]
theorem mem_ins {α : Type} {le : α → α → Bool} {x y : α} {l : List α} (h : y ∈ ins le x l) : y = x ∨ y ∈ l := by
  induction l with
  | nil => simpa [ins] using h
  | cons a r ih =>
    unfold ins at h
    split at h
    · simpa using h
    · rcases List.mem_cons.mp h with h | h
      · exact .inr (by simp [h])
      · rcases ih h with h | h
        · exact .inl h
        · exact .inr (by simp [h])
theorem mem_isort {α : Type} {le : α → α → Bool} {y : α} {l : List α} (h : y ∈ isort le l) : y ∈ l := by
  induction l with
  | nil => exact h
  | cons a r ih =>
    unfold isort at h
    rcases mem_ins h with h | h
    · simp [h]
    · simp [ih h]
theorem ins_len {α : Type} {le : α → α → Bool} {x : α} {l : List α} : (ins le x l).length = l.length + 1 := by
  induction l with
  | nil => rfl
  | cons a r ih => unfold ins; split <;> simp [ih]
theorem isort_len {α : Type} {le : α → α → Bool} {l : List α} : (isort le l).length = l.length := by
  induction l with
  | nil => rfl
  | cons a r ih => unfold isort; rw [ins_len, ih]; rfl
theorem keys_len (m : Kv) : (keysOf m).length = m.length := by unfold keysOf; rw [List.length_map, isort_len, List.length_map]
theorem keys_mem {m : Kv} {d : Bs.D} (h : d ∈ keysOf m) : ∃ k v, d = .str k ∧ kget m k = some v := by
  unfold keysOf at h
  obtain ⟨k, hk, rfl⟩ := List.mem_map.mp h
  have hk := mem_isort hk
  obtain ⟨p, hp, rfl⟩ := List.mem_map.mp hk
  unfold kget
  cases e : m.find? fun q => decide (q.1 = p.1) with
  | none => exact absurd (by simp) (List.find?_eq_none.mp e p hp)
  | some q => exact ⟨p.1, q.2, rfl, by rw [e]; rfl⟩
/-- (key, items[key]) -/
def pairD (m : Kv) (d : Bs.D) : Bs.D := match d with
  | .str k => .tup [.str k, .str ((kget m k).getD [])]
  | d => d
def fromD (low : Sx) (after : Option Sx) (d : Bs.D) : Bool := match d with
  | .str k => decide (k ≥ low) && (match after with
    | none => true
    | some z => decide (k < z))
  | _ => false
def dueD (m : Kv) (low : Sx) (after : Option Sx) : List Bs.D := ((keysOf m).filter (fromD low after)).map (pairD m)
def fitsB (m : Kv) (low : Sx) (lim : Int) (a : Bs.D) : Bool := match a with
  | .tup [t, pairs, af] => decide (t = .str [112, 97, 103, 101]) && (match af with
    | .non => decide (((dueD m low none).length : Int) ≤ lim) && decide (pairs = .tup (dueD m low none))
    | .str z => !decide (z ≤ low) && (decide (((dueD m low (some z)).length : Int) ≤ lim) && decide (pairs = .tup (dueD m low (some z))))
    | _ => false)
  | _ => false
theorem due_ok (m : Kv) (low : Sx) (after : Option Sx) : okP 60 (.tup (dueD m low after)) = true := by
  show okPs 59 (dueD m low after) = true
  have : ∀ l : List Bs.D, (∀ d ∈ l, okP 59 d = true) → okPs 59 l = true := fun l => by
    induction l with
    | nil => intro _; rfl
    | cons a r ih =>
      intro h
      show (okP 59 a && okPs 59 r) = true
      rw [h a (by simp), ih fun d hd => h d (by simp [hd])]
      rfl
  refine this _ fun d hd => ?_
  unfold dueD at hd
  obtain ⟨x, hx, rfl⟩ := List.mem_map.mp hd
  obtain ⟨k, v, rfl, _⟩ := keys_mem (List.mem_filter.mp hx).1
  rfl
section
variable {G : Lang}
theorem strE (a b : Sx) (S : Store) : eqD (.str a) (.str b) S = .ok (.bl (decide (a = b))) S := by rw [eqD_ok rfl rfl]; simp
theorem strN (a b : Sx) (S : Store) : neD (.str a) (.str b) S = .ok (.bl (!decide (a = b))) S := by rw [neD_ok rfl rfl]; simp
theorem intE (a b : Int) (S : Store) : eqD (.int a) (.int b) S = .ok (.bl (decide (a = b))) S := by rw [eqD_ok rfl rfl]; simp
theorem intN (a b : Int) (S : Store) : neD (.int a) (.int b) S = .ok (.bl (!decide (a = b))) S := by rw [neD_ok rfl rfl]; simp
/-- the last lines of page_fits -/
def b4r : ISs := .cons (.asg (.name 3) (.comp (.tup (.cons (.var 9) (.cons (.idx (.var 0) (.var 9)) .nil))) (.name 9) (.exp (.bi .sorted (.cons (.var 0) .nil))) (.some (.and_ (.cons (.cmp .ge (.var 9) (.var 5)) (.cons (.or_ (.cons (.isn (.var 8)) (.cons (.cmp .lt (.var 9) (.var 8)) .nil))) .nil)))) [9])) <|
      .cons (.ret (.and_ (.cons (.cmp .le (.bi .len (.cons (.var 3) .nil)) (.var 6)) (.cons (.cmp .eq (.var 7) (.bi .tuple (.cons (.var 3) .nil))) .nil)))) <| .nil

theorem pf_end {S : Store} {r : Nat} {m : Kv} {low : Sx} {lim : Int} {a pairs x4 x2 : Bs.D} {after : Option Sx} {rho : En} (hr : S[r]? = some (.dic false (kvD m))) (hm : m.length < 64) (hp : okP 60 pairs = true)
    (hrho : rho = [some (.ref r), some x2, some a, none, some x4, some (.str low), some (.int lim), some pairs, some (match after with | none => .non | some z => .str z), none]) :
    evSs G b4r rho S =
      .rt (.bl (decide (((dueD m low after).length : Int) ≤ lim) && decide (pairs = .tup (dueD m low after)))) (S ++ [.lst (keysOf m), .lst (dueD m low after)]) := by
  have z : (64 : Nat) ≤ sizeLine := by decide
  have z2 : (2 : Nat) ≤ sizeLine := by decide
  have hi : evT G (.exp (.bi .sorted (.cons (.var 0) .nil))) rho S = .ok (.live S.length) (S ++ [.lst (keysOf m)]) := by
    subst hrho
    simp [evT, evE, evEs, ev1, ev2, evVar, sorted_kv hr hm, Bs.alloc, iterD]
  have hc := comp_live (G := G) (elt := .tup (.cons (.var 9) (.cons (.idx (.var 0) (.var 9)) .nil))) (tg := .name 9) (cond := .some (.and_ (.cons (.cmp .ge (.var 9) (.var 5)) (.cons (.or_ (.cons (.isn (.var 8)) (.cons (.cmp .lt (.var 9) (.var 8)) .nil))) .nil)))) (own := [9]) (xs := keysOf m)
    (fromD low after) (pairD m) hi (by simp) (by rw [keys_len]; omega) (fun d S' hd hS => by
      obtain ⟨k, v, rfl, hk⟩ := keys_mem hd
      have hr' := hS r _ (get_app hr)
      subst hrho
      refine ⟨_, rfl, ?_, fun _ => ?_⟩
      · cases after with
        | none =>
          by_cases h : k ≥ low
          · simp [evC1, evE, evAnd, evOr, ev1, ev2, evVar, IEs.isNil, cmpD, geD, ltD, truD, fromD, h]
          · have h' : k < low := Decidable.not_not.mp h
            simp [evC1, evE, evAnd, evOr, ev1, ev2, evVar, IEs.isNil, cmpD, geD, ltD, truD, fromD, h, h']
        | some z =>
          by_cases h : k ≥ low
          · by_cases h2 : k < z
            · simp [evC1, evE, evAnd, evOr, ev1, ev2, evVar, IEs.isNil, cmpD, geD, ltD, truD, fromD, h, h2]
            · simp [evC1, evE, evAnd, evOr, ev1, ev2, evVar, IEs.isNil, cmpD, geD, ltD, truD, fromD, h, h2]
          · have h' : k < low := Decidable.not_not.mp h
            simp [evC1, evE, evAnd, evOr, ev1, ev2, evVar, IEs.isNil, cmpD, geD, ltD, truD, fromD, h, h']
      · simp [evE, evEs, ev1, ev2, evVar, idxD, hr', isKey, dget_kv, hk, optD, z2, pairD])
  have hlen : (S ++ [O.lst (keysOf m)] ++ [O.lst (dueD m low after)])[(S ++ [O.lst (keysOf m)]).length]? = some (.lst (dueD m low after)) := by simp
  have hlen2 : (S ++ [O.lst (keysOf m), O.lst (dueD m low after)])[S.length + 1]? = some (.lst (dueD m low after)) := by
    rw [List.getElem?_append_right (by omega)]
    simp
  have hd : ((keysOf m).filter (fromD low after)).map (pairD m) = dueD m low after := rfl
  rw [hd] at hc
  have hle : (dueD m low after).length ≤ sizeLine := by
    unfold dueD
    rw [List.length_map]
    have := List.length_filter_le (fromD low after) (keysOf m)
    rw [keys_len] at this
    omega
  subst hrho
  unfold b4r evSs evS
  rw [hc]
  by_cases h1 : ((dueD m low after).length : Int) ≤ lim
  · simp [evSs, evS, evE, evEs, evAnd, ev1, ev2, evVar, IEs.isNil, cmpD, leD, truD, biD, tgD, optS, itemsD, hlen2, h1, hle, eqD_ok hp (due_ok m low after)]
  · simp [evSs, evS, evE, evEs, evAnd, ev1, ev2, evVar, IEs.isNil, cmpD, leD, truD, biD, tgD, optS, itemsD, hlen2, h1]
theorem b4_eq : b4 = .cons (.asg (.tup [4, 5, 6]) (.var 1)) (.cons (.if_ (.or_ (.cons (.not_ (.isi (.var 2) .tuple)) (.cons (.cmp .ne (.bi .len (.cons (.var 2) .nil)) (.cst (.int 3))) (.cons (.cmp .ne (.idx (.var 2) (.cst (.int 0))) (.cst (.str [112, 97, 103, 101]))) .nil)))) (.cons (.ret (.cst (.bl false))) .nil) .nil)
  (.cons (.asg (.tup [4, 7, 8]) (.var 2)) (.cons (.if_ (.and_ (.cons (.isnn (.var 8)) (.cons (.or_ (.cons (.not_ (.isi (.var 8) .str)) (.cons (.cmp .le (.var 8) (.var 5)) .nil))) .nil))) (.cons (.ret (.cst (.bl false))) .nil) .nil) b4r))) := rfl
theorem pf_cons {body1 : IS} {r : ISs} (rho : En) (S : Store) : evSs G (.cons body1 r) rho S = (evS G body1 rho S).seq (evSs G r) := rfl
theorem pf_rest (n : Nat) : ∀ (xs : List Bs.D), okPs n xs = true → ∀ d ∈ xs, okP n d = true
  | [], _, d, h => by cases h
  | x :: xs, h, d, hd => by
    have h : (okP n x && okPs n xs) = true := by cases n <;> exact h
    rw [Bool.and_eq_true] at h
    rcases List.mem_cons.mp hd with e | e
    · subst e; exact h.1
    · exact pf_rest n xs h.2 d e
/-- page_fits -/
theorem page_fits_ok {S : Store} {r : Nat} {m : Kv} {low : Sx} {lim : Int} {a : Bs.D} (hr : S[r]? = some (.dic false (kvD m))) (hm : m.length < 64) (ha : okP 60 a = true) :
    ∃ T, runBody G 10 3 b4 [.ref r, .tup [.str [112, 97, 103, 101], .str low, .int lim], a] S = .ok (.bl (fitsB m low lim a)) (S ++ T) := by
  have no : ∀ (xs : List Bs.D) (S : Store), truD (.bl true) S = .ok true S := fun _ _ => rfl
  cases a with
  | bl b => cases ha
  | ref n => cases ha
  | scr ns => cases ha
  | non => exact ⟨[], by simp [runBody, b4, evSs, evS, evE, evEs, evOr, ev2, ev1, evVar, evC, startE, tgD, optS, isiD, truD, IEs.isNil, fitsB]⟩
  | int i => exact ⟨[], by simp [runBody, b4, evSs, evS, evE, evEs, evOr, ev2, ev1, evVar, evC, startE, tgD, optS, isiD, truD, IEs.isNil, fitsB]⟩
  | str x => exact ⟨[], by simp [runBody, b4, evSs, evS, evE, evEs, evOr, ev2, ev1, evVar, evC, startE, tgD, optS, isiD, truD, IEs.isNil, fitsB]⟩
  | tup xs =>
    have hx : okPs 59 xs = true := ha
    by_cases hl : xs.length = 3
    · match xs, hl with
      | [t, pairs, af], _ =>
        have ht := okP_mono 59 60 t (by decide) (pf_rest 59 _ hx t (by simp))
        have hp := okP_mono 59 60 pairs (by decide) (pf_rest 59 _ hx pairs (by simp))
        have hf := okP_mono 59 60 af (by decide) (pf_rest 59 _ hx af (by simp))
        have nt : ∀ S, neD t (.str [112, 97, 103, 101]) S = .ok (.bl (!decide (t = .str [112, 97, 103, 101]))) S := fun S => neD_ok ht rfl
        by_cases e : t = .str [112, 97, 103, 101]
        · subst e
          rw [b4_eq]
          cases af with
          | bl b => cases hf
          | ref n => cases hf
          | scr ns => cases hf
          | int i => exact ⟨[], by simp [runBody, evSs, evS, evE, evEs, evOr, evAnd, ev2, ev1, evVar, evC, startE, tgD, optS, isiD, truD, IEs.isNil, fitsB, biD, itemsD, intN, cmpD, idxD, optD, atI, ixN, strN]⟩
          | tup i => exact ⟨[], by simp [runBody, evSs, evS, evE, evEs, evOr, evAnd, ev2, ev1, evVar, evC, startE, tgD, optS, isiD, truD, IEs.isNil, fitsB, biD, itemsD, intN, cmpD, idxD, optD, atI, ixN, strN]⟩
          | non =>
            have key := fun x2 x4 => pf_end (G := G) (a := .tup [.str [112, 97, 103, 101], pairs, .non]) (low := low) (lim := lim) (after := none) (x2 := x2) (x4 := x4) hr hm hp rfl
            exact ⟨_, by simp [runBody, evSs, evS, evE, evEs, evOr, evAnd, ev2, ev1, evVar, evC, startE, tgD, optS, isiD, truD, IEs.isNil, fitsB, biD, itemsD, intN, cmpD, idxD, optD, atI, ixN, strN, key]; rfl⟩
          | str z =>
            by_cases hz : z ≤ low
            · exact ⟨[], by simp [runBody, evSs, evS, evE, evEs, evOr, evAnd, ev2, ev1, evVar, evC, startE, tgD, optS, isiD, truD, IEs.isNil, fitsB, biD, itemsD, intN, cmpD, leD, idxD, optD, atI, ixN, strN, hz]⟩
            · have key := fun x2 x4 => pf_end (G := G) (a := .tup [.str [112, 97, 103, 101], pairs, .str z]) (low := low) (lim := lim) (after := some z) (x2 := x2) (x4 := x4) hr hm hp rfl
              exact ⟨_, by simp [runBody, evSs, evS, evE, evEs, evOr, evAnd, ev2, ev1, evVar, evC, startE, tgD, optS, isiD, truD, IEs.isNil, fitsB, biD, itemsD, intN, cmpD, leD, idxD, optD, atI, ixN, strN, hz, key]; rfl⟩
        · refine ⟨[], ?_⟩
          simp [runBody, b4, evSs, evS, evE, evEs, evOr, ev2, ev1, evVar, evC, startE, tgD, optS, isiD, truD, IEs.isNil, fitsB, biD, itemsD, intN, cmpD, idxD, optD, atI, ixN, nt, e]
    · refine ⟨[], ?_⟩
      have hl' : ¬ ((xs.length : Int) = 3) := by omega
      have hfb : fitsB m low lim (.tup xs) = false := by
        unfold fitsB
        split
        · rename_i z; cases z; exact absurd rfl hl
        · rfl
      simp [runBody, b4, evSs, evS, evE, evEs, evOr, ev2, ev1, evVar, evC, startE, tgD, optS, isiD, truD, IEs.isNil, biD, itemsD, intN, cmpD, hl', hfb]
end
end K70

set_option Elab.async false
set_option linter.all false
set_option maxRecDepth 100000
set_option maxHeartbeats 2000000
/-! K70c: pages of apply; does_request. -/
namespace K70
open PySem PySem.Spec L2 Bs
/-- the statements of _page behind its first one -/
def b0c : IE := .comp (.tup (.cons (.var 6) (.cons (.idx (.var 0) (.var 6)) .nil))) (.name 6) (.exp (.slc (.var 4) .none (.some (.var 2)))) .none [6]
def b0r : ISs := .cons (.ret (.tup (.cons (.cst (.str [112, 97, 103, 101])) (.cons (.bi .tuple (.cons b0c .nil)) (.cons (.var 5) .nil))))) <| .nil
def b0f : IE := .comp (.var 6) (.name 6) (.exp (.bi .sorted (.cons (.var 0) .nil))) (.some (.cmp .le (.var 1) (.var 6))) [6]
theorem b0_eq : b0 = .cons (.asg (.name 4) b0f) (.cons (.asg (.name 5) (.var 3)) (.cons (.if_ (.cmp .gt (.bi .len (.cons (.var 4) .nil)) (.var 2)) (.cons (.asg (.name 5) (.idx (.var 4) (.var 2))) .nil) .nil) b0r)) := rfl
section
variable {G : Lang}
def leB (low : Sx) (d : Bs.D) : Bool := match d with
  | .str k => decide (low ≤ k)
  | _ => false
def foundD (m : Kv) (low : Sx) : List Bs.D := (keysOf m).filter (leB low)
theorem found_mem {m : Kv} {low : Sx} {d : Bs.D} (h : d ∈ foundD m low) : ∃ k v, d = .str k ∧ kget m k = some v := keys_mem (List.mem_filter.mp h).1
theorem found_len (m : Kv) (low : Sx) : (foundD m low).length ≤ m.length := by
  have := List.length_filter_le (leB low) (keysOf m)
  rw [keys_len] at this
  exact this
theorem b0f_ok {S : Store} {r : Nat} {m : Kv} {low : Sx} {x2 x3 x4 x5 : Option Bs.D} (hr : S[r]? = some (.dic false (kvD m))) (hm : m.length < 64) :
    evE G b0f [some (.ref r), some (.str low), x2, x3, x4, x5, none] S = .ok (.ref (S.length + 1)) (S ++ [.lst (keysOf m), .lst (foundD m low)]) := by
  have z : (64 : Nat) ≤ sizeLine := by decide
  have hi : evT G (.exp (.bi .sorted (.cons (.var 0) .nil))) [some (.ref r), some (.str low), x2, x3, x4, x5, none] S = .ok (.live S.length) (S ++ [.lst (keysOf m)]) := by
    simp [evT, evE, evEs, ev1, ev2, evVar, sorted_kv hr hm, Bs.alloc, iterD]
  have hc := comp_live (G := G) (elt := .var 6) (tg := .name 6) (cond := .some (.cmp .le (.var 1) (.var 6))) (own := [6]) (xs := keysOf m) (leB low) id hi (by simp) (by rw [keys_len]; omega) (fun d S' hd hS => by
      obtain ⟨k, v, rfl, hk⟩ := keys_mem hd
      refine ⟨_, rfl, ?_, fun _ => ?_⟩
      · simp [evC1, evE, ev1, ev2, evVar, cmpD, leD, truD, leB]
        by_cases h : k < low
        · have h2 : ¬ (low ≤ k) := fun z => z h
          rw [decide_eq_true h, decide_eq_false h2]; rfl
        · have h2 : low ≤ k := h
          rw [decide_eq_false h, decide_eq_true h2]; rfl
      · simp [evE, evVar])
  unfold b0f
  rw [hc]
  simp [foundD]
theorem b0r_ok {S : Store} {r q : Nat} {m : Kv} {xs : List Bs.D} {lim : Int} {x1 x3 x5 : Bs.D} (hr : S[r]? = some (.dic false (kvD m))) (hq : S[q]? = some (.lst xs)) (hx : ∀ d ∈ xs, ∃ k v, d = .str k ∧ kget m k = some v) (hl : xs.length < 64) :
    ∃ T ans, evSs G b0r [some (.ref r), some x1, some (.int lim), some x3, some (.ref q), some x5, none] S = .rt ans (S ++ T) := by
  have z : (64 : Nat) ≤ sizeLine := by decide
  have z2 : (2 : Nat) ≤ sizeLine := by decide
  have z3 : (3 : Nat) ≤ sizeLine := by decide
  have hi : evT G (.exp (.slc (.var 4) .none (.some (.var 2)))) [some (.ref r), some x1, some (.int lim), some x3, some (.ref q), some x5, none] S = .ok (.live S.length) (S ++ [.lst (sliceL xs none (some lim))]) := by
    simp [evT, evE, evO, ev1, ev2, evVar, slcD, hq, Bs.alloc, iterD]
  have hlen : (sliceL xs none (some lim)).length < 64 := by have := slice_len xs none (some lim); omega
  have hc := comp_live (G := G) (elt := .tup (.cons (.var 6) (.cons (.idx (.var 0) (.var 6)) .nil))) (tg := .name 6) (cond := .none) (own := [6]) (xs := sliceL xs none (some lim)) (fun _ => true) (pairD m) hi (by simp) (by omega) (fun d S' hd hS => by
      obtain ⟨k, v, rfl, hk⟩ := hx _ (slice_mem hd)
      have hr' := hS r _ (get_app hr)
      refine ⟨_, rfl, rfl, fun _ => ?_⟩
      simp [evE, evEs, ev1, ev2, evVar, idxD, hr', isKey, dget_kv, hk, optD, z2, pairD])
  refine ⟨[.lst (sliceL xs none (some lim)), .lst ((sliceL xs none (some lim)).map (pairD m))], .tup [.str [112, 97, 103, 101], .tup ((sliceL xs none (some lim)).map (pairD m)), x5], ?_⟩
  have hc' : evE G b0c [some (.ref r), some x1, some (.int lim), some x3, some (.ref q), some x5, none] S = .ok (.ref (S.length + 1)) (S ++ [.lst (sliceL xs none (some lim)), .lst ((sliceL xs none (some lim)).map (pairD m))]) := by
    unfold b0c
    rw [hc, List.filter_eq_self.mpr (fun _ _ => rfl)]
    simp
  have hg : (S ++ [O.lst (sliceL xs none (some lim)), O.lst ((sliceL xs none (some lim)).map (pairD m))])[S.length + 1]? = some (.lst ((sliceL xs none (some lim)).map (pairD m))) := by
    rw [List.getElem?_append_right (by omega)]
    simp
  have hle : (sliceL xs none (some lim)).length ≤ sizeLine := by omega
  simp [b0r, evSs, evS, evE, evEs, ev1, ev2, evVar, evC, hc', biD, itemsD, hg, hle, z3]
/-- _page -/
theorem page_ok {S : Store} {r : Nat} {m : Kv} {low : Sx} {lim : Int} {hi : Bs.D} (hr : S[r]? = some (.dic false (kvD m))) (hm : m.length < 64) (hlim : 0 ≤ lim) :
    ∃ T ans, runBody G 7 4 b0 [.ref r, .str low, .int lim, hi] S = .ok ans (S ++ T) := by
  have hf := b0f_ok (G := G) (low := low) (x2 := some (.int lim)) (x3 := some hi) (x4 := none) (x5 := none) hr hm
  have hg : (S ++ [O.lst (keysOf m), O.lst (foundD m low)])[S.length + 1]? = some (.lst (foundD m low)) := by
    rw [List.getElem?_append_right (by omega)]
    simp
  have hl := found_len m low
  rw [b0_eq]
  by_cases h : ((foundD m low).length : Int) > lim
  · have hat : ∃ x, atI (foundD m low) lim = some x := by
      unfold atI ixN
      rw [if_pos hlim, if_pos (by omega)]
      exact ⟨(foundD m low)[lim.toNat]'(by omega), List.getElem?_eq_getElem _⟩
    obtain ⟨x, hat⟩ := hat
    obtain ⟨T, ans, key⟩ := b0r_ok (G := G) (lim := lim) (x1 := .str low) (x3 := hi) (x5 := x) (get_app (T := [O.lst (keysOf m), O.lst (foundD m low)]) hr) hg (fun d hd => found_mem hd) (by omega)
    refine ⟨[O.lst (keysOf m), O.lst (foundD m low)] ++ T, ans, ?_⟩
    simp [runBody, evSs, evS, evE, evEs, ev1, ev2, evVar, startE, tgD, optS, hf, biD, hg, cmpD, gtD, truD, h, idxD, hat, optD, key]
  · obtain ⟨T, ans, key⟩ := b0r_ok (G := G) (lim := lim) (x1 := .str low) (x3 := hi) (x5 := hi) (get_app (T := [O.lst (keysOf m), O.lst (foundD m low)]) hr) hg (fun d hd => found_mem hd) (by omega)
    refine ⟨[O.lst (keysOf m), O.lst (foundD m low)] ++ T, ans, ?_⟩
    simp [runBody, evSs, evS, evE, evEs, ev1, ev2, evVar, startE, tgD, optS, hf, biD, hg, cmpD, gtD, truD, h, key]
def Op.lim : Op → Bool
  | .page low l => decide (0 ≤ l) && decide (low.length ≤ 9)
  | _ => true
/-- apply -/
theorem apply_all {S : Store} {r : Nat} {m : Kv} {op : Op} {hi : Bs.D} (hp : ∀ S low lim hi, S[r]? = some (.dic false (kvD m)) → 0 ≤ lim → ∃ T ans, G.call 0 [.ref r, .str low, .int lim, hi] S = .ok ans (S ++ T)) (hr : S[r]? = some (.dic false (kvD m))) (hm : m.length < 64) (hop : op.lim = true) :
    ∃ T ans, runBody G 5 3 b1 [.ref r, op.d, hi] S = .ok ans (S.set r (.dic false (kvD (chg m op))) ++ T) ∧ (op.isPage = false → ans = ansOf m op) := by
  by_cases h : op.isPage = true
  · cases op with
    | page low lim =>
      obtain ⟨T, ans, e⟩ := hp S low lim hi hr (of_decide_eq_true (Bool.and_eq_true_iff.mp hop).1)
      refine ⟨T, ans, ?_, fun z => by cases z⟩
      have hs : S.set r (.dic false (kvD (chg m (.page low lim)))) = S := set_same S r _ hr
      rw [hs]
      simp [runBody, b1, evSs, evS, evE, evEs, ev2, ev1, evVar, evC, startE, idxD, cmpD, strE, truD, optD, atI, ixN, Op.d, e]
    | _ => cases h
  · have h : op.isPage = false := by simpa using h
    exact ⟨[], _, by rw [apply_ok hr (by omega) h, List.append_nil], fun _ => rfl⟩

/-! ### events -/
inductive Ev where
  | call (t c n : Int) (op : Op)
  | did (t s c n : Int) (op : Op)
  | gone (t : Int)
  | acc (t c n : Int) (a : Bs.D)
def Ev.d : Ev → Bs.D
  | .call t c n op => .tup [.str [99, 97, 108, 108], .int t, .int c, .int n, op.d]
  | .did t s c n op => .tup [.str [100, 111, 110, 101], .int t, .int s, .tup [.str [100, 105, 100], .str [], .int 1, .int c, .int n, op.d]]
  | .gone t => .tup [.str [100, 111, 110, 101], .int t, .int 1, .tup [.str [103, 111, 110, 101], .str [], .non, .int 2]]
  | .acc t c n a => .tup [.str [97, 99, 99, 101, 112, 116], .int t, .int c, .int n, a]
def Ev.isDid : Ev → Bool
  | .did _ _ _ _ _ => true
  | _ => false
theorem does_ok (e : Ev) (S : Store) : runBody G 1 1 b2 [e.d] S = .ok (.bl e.isDid) S := by
  cases e <;> simp [runBody, b2, evSs, evS, evE, evAnd, ev2, ev1, evVar, evC, startE, idxD, IEs.isNil, cmpD, strE, truD, optD, atI, ixN, Ev.d, Ev.isDid]
end
end K70

set_option Elab.async false
set_option linter.all false
set_option maxRecDepth 100000
set_option maxHeartbeats 2000000
/-! K70d: request_fault. -/
namespace K70
open PySem PySem.Spec L2 Bs
theorem dget_dput (kvs : List (Bs.D × Bs.D)) (k v k' : Bs.D) : dget (dput kvs k v) k' = if k' = k then some v else dget kvs k' := by
  unfold dput
  by_cases h : (kvs.any fun kv => decide (kv.1 = k)) = true
  · rw [if_pos h]
    unfold dget
    induction kvs with
    | nil => cases h
    | cons p r ih =>
      simp only [List.map_cons, List.find?_cons]
      by_cases e : p.1 = k
      · subst e
        simp only [if_true]
        by_cases e2 : k' = p.1
        · subst e2; simp
        · have e3 : ¬ p.1 = k' := fun z => e2 z.symm
          simp only [e3, decide_false, e2, if_false]
          clear ih h
          induction r with
          | nil => rfl
          | cons q r ih2 =>
            simp only [List.map_cons, List.find?_cons]
            by_cases e4 : q.1 = p.1
            · simp only [e4, if_true, e3, decide_false]; exact ih2
            · simp only [e4, if_false]
              by_cases e5 : q.1 = k'
              · simp [e5]
              · simp only [e5, decide_false]; exact ih2
      · simp only [e, if_false]
        have h' : (r.any fun kv => decide (kv.1 = k)) = true := by simpa [List.any_cons, e] using h
        by_cases e2 : p.1 = k'
        · have e3 : ¬ k' = k := fun z => e (e2.trans z)
          simp [e2, e3]
        · simp only [e2, decide_false]
          exact ih h'
  · rw [if_neg h]
    unfold dget
    rw [List.find?_append]
    by_cases e : k' = k
    · subst e
      have : kvs.find? (fun kv => decide (kv.1 = k')) = none := by
        rw [List.find?_eq_none]
        intro x hx hh
        exact h (List.any_eq_true.mpr ⟨x, hx, hh⟩)
      simp [this]
    · have e3 : ¬ k = k' := fun z => e z.symm
      simp [e, e3]
theorem set2a (S : Store) (x y z : O) : (S ++ [x, y]).set S.length z = S ++ [z, y] := by
  rw [List.set_append_right _ _ (Nat.le_refl _)]; simp
theorem set2b (S : Store) (x y z : O) : (S ++ [x, y]).set (S.length + 1) z = S ++ [x, z] := by
  rw [List.set_append_right _ _ (Nat.le_succ _)]; simp
theorem get2a (S : Store) (x y : O) : (S ++ [x, y])[S.length]? = some x := by
  rw [List.getElem?_append_right (Nat.le_refl _)]; simp
theorem get2b (S : Store) (x y : O) : (S ++ [x, y])[S.length + 1]? = some y := by
  rw [List.getElem?_append_right (Nat.le_succ _)]; simp
def key (c n : Int) : Bs.D := .tup [.int c, .int n]
theorem key_ok (c n : Int) : isKeyT (key c n) = true := rfl
theorem key_inj {c n c' n' : Int} : key c n = key c' n' ↔ c = c' ∧ n = n' := by simp [key]
/-! ### what was -/
def lastCall (P : List Ev) (c n : Int) : Option Op := P.foldl (fun acc e => match e with
  | .call _ c' n' op => if c' = c ∧ n' = n then some op else acc
  | _ => acc) none
def anyDid (P : List Ev) (c n : Int) : Bool := P.any fun e => match e with
  | .did _ _ c' n' _ => decide (c' = c ∧ n' = n)
  | _ => false
theorem lastCall_app (P : List Ev) (e : Ev) (c n : Int) : lastCall (P ++ [e]) c n = match e with
  | .call _ c' n' op => if c' = c ∧ n' = n then some op else lastCall P c n
  | _ => lastCall P c n := by
  unfold lastCall
  rw [List.foldl_append]
  rfl
theorem anyDid_app (P : List Ev) (e : Ev) (c n : Int) : anyDid (P ++ [e]) c n = (anyDid P c n || match e with
  | .did _ _ c' n' _ => decide (c' = c ∧ n' = n)
  | _ => false) := by
  unfold anyDid
  rw [List.any_append]
  simp
def uncalled (c n : Int) : Bs.D := .tup [.str [117, 110, 99, 97, 108, 108, 101, 100], .int c, .int n]
def repeated (c n : Int) : Bs.D := .tup [.str [114, 101, 112, 101, 97, 116, 101, 100], .int c, .int n]
def faultR (P : List Ev) : Ev → Option Bs.D
  | .did _ _ c n op => if (lastCall P c n).map Op.d ≠ some op.d then some (uncalled c n) else if anyDid P c n = true then some (repeated c n) else none
  | _ => none
def reqF : List Ev → List Ev → Bs.D
  | _, [] => .non
  | P, e :: r => match faultR P e with
    | some d => d
    | none => reqF (P ++ [e]) r
def nth : ISs → Nat → IS
  | .nil, _ => .pass
  | .cons s _, 0 => s
  | .cons _ r, n + 1 => nth r n
def bodyOf : IS → ISs
  | .for_ _ _ b => b
  | _ => .nil
def rfBody : ISs := bodyOf (nth b3 2)
theorem b3_eq : b3 = .cons (.asg (.name 1) (.dict0 true)) (.cons (.asg (.name 2) (.dict0 true)) (.cons (.for_ (.name 3) (.exp (.var 0)) rfBody) (.cons (.ret (.cst .non)) .nil))) := rfl
section
variable {G : Lang}
theorem evSs_cons (s : IS) (r : ISs) (rho : En) (S : Store) : evSs G (.cons s r) rho S = (evS G s rho S).seq (evSs G r) := rfl
theorem rf_other (hdr : ∀ (e : Ev) S, G.call 2 [e.d] S = .ok (.bl e.isDid) S) {S : Store} {e : Ev} {x0 x1 x2 x4 x5 x6 : Option Bs.D} (h : match e with
    | .gone _ => True
    | .acc _ _ _ _ => True
    | _ => False) : evSs G rfBody [x0, x1, x2, some e.d, x4, x5, x6] S = .nx [x0, x1, x2, some e.d, x4, x5, x6] S := by
  have hd := hdr e S
  cases e with
  | call => exact h.elim
  | did => exact h.elim
  | gone t =>
    unfold Ev.d at hd ⊢
    simp [rfBody, bodyOf, nth, b3, evSs, evS, evE, evEs, ev2, ev1, evVar, evC, idxD, cmpD, strE, truD, optD, atI, ixN, hd, Ev.isDid]
  | acc t c n a =>
    unfold Ev.d at hd ⊢
    simp [rfBody, bodyOf, nth, b3, evSs, evS, evE, evEs, ev2, ev1, evVar, evC, idxD, cmpD, strE, truD, optD, atI, ixN, hd, Ev.isDid]
theorem rf_call (hdr : ∀ (e : Ev) S, G.call 2 [e.d] S = .ok (.bl e.isDid) S) {S : Store} {t c n : Int} {op : Op} {a : Nat} {cs : List (Bs.D × Bs.D)} {x0 x2 x4 x5 x6 : Option Bs.D} (ha : S[a]? = some (.dit cs)) (hl : cs.length < sizeLine) :
    evSs G rfBody [x0, some (.ref a), x2, some (Ev.call t c n op).d, x4, x5, x6] S = .nx [x0, some (.ref a), x2, some (Ev.call t c n op).d, x4, x5, x6] (S.set a (.dit (dput cs (key c n) op.d))) := by
  have hd := fun S => hdr (.call t c n op) S
  have z2 : (2 : Nat) ≤ sizeLine := by decide
  unfold Ev.d at hd ⊢
  simp [rfBody, bodyOf, nth, b3, evSs, evS, evE, evEs, ev2, ev1, evVar, evC, idxD, cmpD, strE, truD, optD, atI, ixN, hd, Ev.isDid, setD, ha, hl, isKeyT, putS, key, z2]
theorem rf_did (hdr : ∀ (e : Ev) S, G.call 2 [e.d] S = .ok (.bl e.isDid) S) {S : Store} {t s c n : Int} {op : Op} {a b : Nat} {cs ds : List (Bs.D × Bs.D)} {oc : Option Op} {x0 x4 x5 x6 : Option Bs.D} (ha : S[a]? = some (.dit cs)) (hb : S[b]? = some (.dit ds)) (hl : ds.length < sizeLine)
    (hc : dget cs (key c n) = oc.map Op.d) :
    evSs G rfBody [x0, some (.ref a), some (.ref b), some (Ev.did t s c n op).d, x4, x5, x6] S =
      if oc.map Op.d ≠ some op.d then .rt (uncalled c n) S else if (dget ds (key c n)).isSome = true then .rt (repeated c n) S
        else .nx [x0, some (.ref a), some (.ref b), some (Ev.did t s c n op).d, some (.int c), some (.int n), some op.d] (S.set b (.dit (dput ds (key c n) (.bl true)))) := by
  have hd := fun S => hdr (.did t s c n op) S
  have z2 : (2 : Nat) ≤ sizeLine := by decide
  have z3 : (3 : Nat) ≤ sizeLine := by decide
  unfold key at hc ⊢
  unfold Ev.d at hd ⊢
  cases oc with
  | none =>
    simp only [Option.map_none] at hc
    simp [rfBody, bodyOf, nth, b3, evSs, evS, evE, evEs, evOr, IEs.isNil, ev2, ev1, evVar, evC, idxD, cmpD, inD, blD, strE, truD, optD, atI, ixN, hd, Ev.isDid, ha, hl, isKeyT, hc, z2, z3, uncalled]
  | some op' =>
    simp only [Option.map_some] at hc
    have hne : ∀ S, neD op'.d op.d S = .ok (.bl (!decide (op'.d = op.d))) S := fun S => neD_ok (okP_mono 2 60 _ (by decide) (okop op')) (okP_mono 2 60 _ (by decide) (okop op))
    by_cases e : op'.d = op.d
    · rw [e] at hne hc
      cases e2 : (dget ds (.tup [.int c, .int n])) with
      | none => rw [Option.map_some, e]; simp [rfBody, bodyOf, nth, b3, evSs, evS, evE, evEs, evOr, IEs.isNil, ev2, ev1, evVar, evC, idxD, cmpD, inD, blD, strE, truD, optD, atI, ixN, hd, Ev.isDid, ha, hb, hl, isKeyT, hc, z2, z3, uncalled, hne, e2, setD, putS]
      | some v => rw [Option.map_some, e]; simp [rfBody, bodyOf, nth, b3, evSs, evS, evE, evEs, evOr, IEs.isNil, ev2, ev1, evVar, evC, idxD, cmpD, inD, blD, strE, truD, optD, atI, ixN, hd, Ev.isDid, ha, hb, hl, isKeyT, hc, z2, z3, repeated, hne, e2, setD, putS]
    · simp [rfBody, bodyOf, nth, b3, evSs, evS, evE, evEs, evOr, IEs.isNil, ev2, ev1, evVar, evC, idxD, cmpD, inD, blD, strE, truD, optD, atI, ixN, hd, Ev.isDid, ha, hl, isKeyT, hc, z2, z3, uncalled, hne, e]
end
end K70

set_option Elab.async false
set_option linter.all false
set_option maxRecDepth 100000
set_option maxHeartbeats 2000000
/-! K70e: request_fault: the loop. -/
namespace K70
open PySem PySem.Spec L2 Bs
section
variable {G : Lang}
theorem take_ev {L : List Ev} {i : Nat} {d : Bs.D} (h : (L.map Ev.d)[i]? = some d) : ∃ ev, L[i]? = some ev ∧ d = ev.d ∧ L.take (i + 1) = L.take i ++ [ev] ∧ L.drop i = ev :: L.drop (i + 1) ∧ i < L.length := by
  rw [List.getElem?_map] at h
  cases e : L[i]? with
  | none => rw [e] at h; cases h
  | some ev =>
    rw [e] at h
    cases h
    have hi := (List.getElem?_eq_some_iff.mp e).1
    refine ⟨ev, rfl, rfl, ?_, ?_, hi⟩
    · rw [List.take_add_one, e]; rfl
    · rw [List.drop_eq_getElem_cons hi]
      congr 1
      exact (List.getElem?_eq_some_iff.mp e).2
/-- a loop that ends with an answer, or goes through -/
def EndZ (S : Store) (v : Bs.D) (r : SR) : Prop := (∃ rho T, r = .nx rho (S ++ T) ∧ v = .non) ∨ (∃ T, r = .rt v (S ++ T))
def resOf (r : SR) : Bs.Res Bs.D := match r with
  | .nx _ S => .ok .non S
  | .rt d S => .ok d S
  | .ex c fs _ S => .exc c fs S
  | _ => .stuck
theorem runBody_eq {n k : Nat} {body : ISs} {args : List Bs.D} {S : Store} (h : args.length = k) : runBody G n k body args S = resOf (evSs G body (startE n args) S) := by
  unfold runBody
  rw [if_pos h]
  cases evSs G body (startE n args) S <;> rfl
theorem end_run {S : Store} {v : Bs.D} {n : Nat} {r : SR} (h : EndZ S v r) : ∃ T, resOf ((shutS (.live n) r).seq (evSs G (.cons (.ret (.cst .non)) .nil))) = .ok v (S ++ T) := by
  rcases h with ⟨rho, T, rfl, rfl⟩ | ⟨T, rfl⟩
  · exact ⟨T, rfl⟩
  · exact ⟨T, rfl⟩
theorem dput_len {kvs : List (Bs.D × Bs.D)} {k d : Bs.D} : (dput kvs k d).length ≤ kvs.length + 1 := by
  unfold dput
  split <;> simp
theorem request_fault_ok (hdr : ∀ (e : Ev) S, G.call 2 [e.d] S = .ok (.bl e.isDid) S) {S : Store} {e0 : Nat} {L : List Ev} (he : S[e0]? = some (.lst (L.map Ev.d))) (hL : L.length < 1000) :
    ∃ T, runBody G 7 1 b3 [.ref e0] S = .ok (reqF [] L) (S ++ T) := by
  have z : (1000 : Nat) ≤ sizeLine := by decide
  have loop : EndZ S (reqF [] L) (forN (.live e0) (.name 3) (evSs G rfBody) (L.map Ev.d).length 0 [some (.ref e0), some (.ref S.length), some (.ref (S.length + 1)), none, none, none, none] (S ++ [.dit [], .dit []])) := by
    refine for_rule (xs := L.map Ev.d) (fun i rho S' => ∃ cs ds x3 x4 x5 x6, S' = S ++ [.dit cs, .dit ds] ∧ rho = [some (.ref e0), some (.ref S.length), some (.ref (S.length + 1)), x3, x4, x5, x6] ∧ (∀ c n, dget cs (key c n) = (lastCall (L.take i) c n).map Op.d) ∧
      (∀ c n, (dget ds (key c n)).isSome = anyDid (L.take i) c n) ∧ cs.length ≤ i ∧ ds.length ≤ i ∧ reqF (L.take i) (L.drop i) = reqF [] L) ?_ ?_ ?_ _ _ _ _ ⟨[], [], none, none, none, none, rfl, rfl, fun c n => rfl, fun c n => rfl, Nat.zero_le _, Nat.zero_le _, rfl⟩ (Nat.zero_le _) (by omega)
    · rintro i rho S' ⟨cs, ds, x3, x4, x5, x6, rfl, rfl, h1, h2, h3, h4, h5⟩
      unfold nextI
      dsimp only
      rw [get_app he]
    · rintro i d rho S' hd ⟨cs, ds, x3, x4, x5, x6, rfl, rfl, h1, h2, h3, h4, h5⟩
      obtain ⟨ev, e1, rfl, e2, e3, e4⟩ := take_ev hd
      rw [e3] at h5
      refine ⟨_, rfl, ?_⟩
      show stepZ _ _ (evSs G rfBody [some (.ref e0), some (.ref S.length), some (.ref (S.length + 1)), some ev.d, x4, x5, x6] (S ++ [.dit cs, .dit ds]))
      have ha := get2a S (.dit cs) (.dit ds)
      have hb := get2b S (.dit cs) (.dit ds)
      cases ev with
      | gone t =>
        rw [rf_other hdr (by trivial)]
        refine ⟨cs, ds, _, _, _, _, rfl, rfl, fun c n => ?_, fun c n => ?_, by omega, by omega, ?_⟩
        · rw [e2, lastCall_app]; exact h1 c n
        · rw [e2, anyDid_app, h2]; simp
        · rw [e2]; exact h5
      | acc t c n a =>
        rw [rf_other hdr (by trivial)]
        refine ⟨cs, ds, _, _, _, _, rfl, rfl, fun c n => ?_, fun c n => ?_, by omega, by omega, ?_⟩
        · rw [e2, lastCall_app]; exact h1 c n
        · rw [e2, anyDid_app, h2]; simp
        · rw [e2]; exact h5
      | call t c n op =>
        rw [rf_call hdr ha (by omega), set2a]
        refine ⟨_, ds, _, _, _, _, rfl, rfl, fun c' n' => ?_, fun c n => ?_, by have := dput_len (kvs := cs) (k := key c n) (d := op.d); omega, by omega, ?_⟩
        · rw [e2, lastCall_app, dget_dput, h1]
          by_cases e : c = c' ∧ n = n'
          · obtain ⟨rfl, rfl⟩ := e; simp
          · have e' : ¬ key c' n' = key c n := fun zz => e (by have := key_inj.mp zz; exact ⟨this.1.symm, this.2.symm⟩)
            simp [e, e']
        · rw [e2, anyDid_app, h2]; simp
        · rw [e2]; exact h5
      | did t s c n op =>
        rw [rf_did hdr ha hb (by omega) (h1 c n)]
        have h5' : reqF [] L = match faultR (L.take i) (.did t s c n op) with
          | some d => d
          | none => reqF (L.take i ++ [.did t s c n op]) (L.drop (i + 1)) := h5.symm
        unfold faultR at h5'
        dsimp only at h5'
        by_cases c1 : (lastCall (L.take i) c n).map Op.d ≠ some op.d
        · rw [if_pos c1] at h5' ⊢
          exact .inr ⟨[.dit cs, .dit ds], by rw [h5']⟩
        · rw [if_neg c1] at h5' ⊢
          rw [h2]
          by_cases c2 : anyDid (L.take i) c n = true
          · rw [if_pos c2] at h5' ⊢
            exact .inr ⟨[.dit cs, .dit ds], by rw [h5']⟩
          · rw [if_neg c2] at h5' ⊢
            rw [set2b]
            refine ⟨cs, _, _, _, _, _, rfl, rfl, fun c' n' => ?_, fun c' n' => ?_, by omega, by have := dput_len (kvs := ds) (k := key c n) (d := .bl true); omega, ?_⟩
            · rw [e2, lastCall_app]; exact h1 c' n'
            · rw [e2, anyDid_app, dget_dput]
              by_cases e : c = c' ∧ n = n'
              · obtain ⟨rfl, rfl⟩ := e; simp
              · have e' : ¬ key c' n' = key c n := fun zz => e (by have := key_inj.mp zz; exact ⟨this.1.symm, this.2.symm⟩)
                simp only [e', if_false, h2, e, decide_false, Bool.or_false]
            · rw [e2]; exact h5'.symm
    · rintro rho S' ⟨cs, ds, x3, x4, x5, x6, rfl, rfl, h1, h2, h3, h4, h5⟩
      refine .inl ⟨_, _, rfl, ?_⟩
      rw [List.length_map, List.drop_length] at h5
      exact h5.symm
  have hlen : lenI (.live e0) (S ++ [.dit [], .dit []]) = (L.map Ev.d).length := by unfold lenI; dsimp only; rw [get_app he]
  obtain ⟨T, q⟩ := end_run (G := G) (n := e0) loop
  refine ⟨T, ?_⟩
  rw [← q, ← hlen, b3_eq, runBody_eq (k := 1) (args := [.ref e0]) rfl]
  simp [evSs_cons, evS, evE, ev1, evVar, startE, Bs.alloc, tgD, optS, evT, iterD, get_app he]
end
end K70

set_option Elab.async false
set_option linter.all false
set_option maxRecDepth 100000
set_option maxHeartbeats 2000000
/-! K70f: _law_requests. -/
namespace K70
open PySem PySem.Spec L2 Bs
def callB (c n : Int) (op : Op) : Ev → Bool
  | .call _ c' n' op' => decide (c' = c) && (decide (n' = n) && decide (op'.d = op.d))
  | _ => false
def didB (c n : Int) : Ev → Bool
  | .did _ _ c' n' _ => decide (c' = c ∧ n' = n)
  | _ => false
def anyCall (P : List Ev) (c n : Int) (op : Op) : Bool := P.any (callB c n op)
theorem anyDid_eq (P : List Ev) (c n : Int) : anyDid P c n = P.any (didB c n) := by
  unfold anyDid
  congr 1
def faultQ (P : List Ev) : Ev → Option Bs.D
  | .did _ _ c n op => if anyCall P c n op = false then some (uncalled c n) else if anyDid P c n = true then some (repeated c n) else none
  | _ => none
def lawReq : List Ev → List Ev → Bs.D
  | _, [] => .non
  | P, e :: r => match faultQ P e with
    | some d => d
    | none => lawReq (P ++ [e]) r
theorem atI_nat {α : Type} (xs : List α) (i : Nat) : atI xs (i : Int) = xs[i]? := by
  unfold atI ixN
  rw [if_pos (by omega)]
  by_cases h : i < xs.length
  · rw [if_pos (by omega)]; simp
  · rw [if_neg (by omega)]; simp; omega
theorem slice_to {α : Type} (xs : List α) (k : Nat) (h : k ≤ xs.length) : sliceL xs none (some (k : Int)) = xs.take k := by
  unfold sliceL
  rw [HT.sIx_none, HT.sIx_nat, Nat.min_eq_left h]
  simp
theorem range_get (n i : Nat) : (rangeD 0 (n : Int))[i]? = if i < n then some (.int (i : Int)) else none := by
  unfold rangeD
  rw [List.getElem?_map]
  by_cases h : i < n
  · rw [List.getElem?_range (by omega)]; simp [h]
  · rw [List.getElem?_eq_none (by simp; omega)]; simp [h]
theorem range_len (n : Nat) : (rangeD 0 (n : Int)).length = n := by unfold rangeD; simp
theorem idx_tup (xs : List Bs.D) (i : Int) (S : Store) : idxD (.tup xs) (.int i) S = optD (atI xs i) S := rfl
def lqBody : ISs := bodyOf (nth b12 0)
def liBody : ISs := bodyOf (nth lqBody 4)
def recD (c n : Int) (op : Op) : Bs.D := .tup [.str [100, 105, 100], .str [], .int 1, .int c, .int n, op.d]
section
variable {G : Lang}
theorem li_step {S : Store} {x0 x1 : Option Bs.D} {c n : Int} {op : Op} {b1 b2 : Bool} {o : Ev} :
    evSs G liBody [x0, x1, some (recD c n op), some (.bl b1), some (.bl b2), some o.d] S = .nx [x0, x1, some (recD c n op), some (.bl (b1 || callB c n op o)), some (.bl (b2 || didB c n o)), some o.d] S := by
  cases o with
  | gone t => simp [liBody, lqBody, bodyOf, nth, b12, evSs, evS, evE, evEs, evAnd, IEs.isNil, ev2, ev1, evVar, evC, idxD, cmpD, strE, truD, optD, atI, ixN, Ev.d, recD, callB, didB]
  | acc t c' n' a => simp [liBody, lqBody, bodyOf, nth, b12, evSs, evS, evE, evEs, evAnd, IEs.isNil, ev2, ev1, evVar, evC, idxD, cmpD, strE, truD, optD, atI, ixN, Ev.d, recD, callB, didB]
  | call t c' n' op' =>
    have hne : ∀ S, eqD op'.d op.d S = .ok (.bl (decide (op'.d = op.d))) S := fun S => Bs.eqD_ok (okP_mono 2 60 _ (by decide) (okop op')) (okP_mono 2 60 _ (by decide) (okop op))
    by_cases h1 : c' = c
    · by_cases h2 : n' = n
      · by_cases h3 : op'.d = op.d
        · have hs : ∀ S, eqD op'.d op.d S = .ok (.bl true) S := fun S => by rw [hne, decide_eq_true h3]
          have ht := eq_true h3
          simp [liBody, lqBody, bodyOf, nth, b12, evSs, evS, evE, evEs, evAnd, IEs.isNil, ev2, ev1, evVar, evC, idxD, cmpD, strE, intE, truD, optD, atI, ixN, Ev.d, recD, callB, didB, h1, h2, hs, ht, tgD, optS]
        · simp [liBody, lqBody, bodyOf, nth, b12, evSs, evS, evE, evEs, evAnd, IEs.isNil, ev2, ev1, evVar, evC, idxD, cmpD, strE, intE, truD, optD, atI, ixN, Ev.d, recD, callB, didB, h1, h2, hne, h3, tgD, optS]
      · simp [liBody, lqBody, bodyOf, nth, b12, evSs, evS, evE, evEs, evAnd, IEs.isNil, ev2, ev1, evVar, evC, idxD, cmpD, strE, intE, truD, optD, atI, ixN, Ev.d, recD, callB, didB, h1, h2]
    · simp [liBody, lqBody, bodyOf, nth, b12, evSs, evS, evE, evEs, evAnd, IEs.isNil, ev2, ev1, evVar, evC, idxD, cmpD, strE, intE, truD, optD, atI, ixN, Ev.d, recD, callB, didB, h1]
  | did t s c' n' op' =>
    have hne : ∀ S, eqD (.tup [.int c', .int n']) (.tup [.int c, .int n]) S = .ok (.bl (decide (c' = c ∧ n' = n))) S := fun S => by rw [Bs.eqD_ok rfl rfl]; simp
    have s1 : ∀ (a b c d e f : Bs.D), sliceL [a, b, c, d, e, f] (some 3) (some 5) = [d, e] := fun a b c d e f => rfl
    by_cases h1 : c' = c ∧ n' = n
    · obtain ⟨rfl, rfl⟩ := h1
      have hs : ∀ S, eqD (.tup [.int c', .int n']) (.tup [.int c', .int n']) S = .ok (.bl true) S := fun S => by rw [hne]; simp
      simp [liBody, lqBody, bodyOf, nth, b12, evSs, evS, evE, evEs, evO, evAnd, IEs.isNil, ev2, ev1, evVar, evC, idxD, cmpD, strE, intE, truD, optD, atI, ixN, Ev.d, recD, callB, didB, slcD, s1, hs, tgD, optS]
    · simp [liBody, lqBody, bodyOf, nth, b12, evSs, evS, evE, evEs, evO, evAnd, IEs.isNil, ev2, ev1, evVar, evC, idxD, cmpD, strE, intE, truD, optD, atI, ixN, Ev.d, recD, callB, didB, slcD, s1, hne, h1]
theorem li_loop {S : Store} {x0 x1 x5 : Option Bs.D} {c n : Int} {op : Op} {q : Nat} {P : List Ev} (hq : S[q]? = some (.lst (P.map Ev.d))) :
    ∃ x5', forN (.live q) (.name 5) (evSs G liBody) P.length 0 [x0, x1, some (recD c n op), some (.bl false), some (.bl false), x5] S = .nx [x0, x1, some (recD c n op), some (.bl (anyCall P c n op)), some (.bl (anyDid P c n)), x5'] S := by
  refine for_rule (xs := P.map Ev.d) (Z := fun r => ∃ x5', r = .nx [x0, x1, some (recD c n op), some (.bl (anyCall P c n op)), some (.bl (anyDid P c n)), x5'] S)
    (fun i rho S' => S' = S ∧ ∃ x5, rho = [x0, x1, some (recD c n op), some (.bl (anyCall (P.take i) c n op)), some (.bl (anyDid (P.take i) c n)), x5]) ?_ ?_ ?_ _ _ _ _ ⟨rfl, x5, rfl⟩ (Nat.zero_le _) (by simp)
  · rintro i rho S' ⟨rfl, x5, rfl⟩
    unfold nextI
    dsimp only
    rw [hq]
  · rintro i d rho S' hd ⟨rfl, x5, rfl⟩
    obtain ⟨ev, e1, rfl, e2, e3, e4⟩ := take_ev hd
    refine ⟨_, rfl, ?_⟩
    show stepZ _ _ (evSs G liBody [x0, x1, some (recD c n op), some (.bl (anyCall (P.take i) c n op)), some (.bl (anyDid (P.take i) c n)), some ev.d] S')
    rw [li_step]
    refine ⟨rfl, some ev.d, ?_⟩
    rw [e2, anyDid_eq, anyDid_eq]
    unfold anyCall
    rw [List.any_append, List.any_append]
    simp
  · rintro rho S' ⟨rfl, x5, rfl⟩
    refine ⟨x5, ?_⟩
    rw [List.length_map, List.take_length]
theorem lq_step {S : Store} {e0 i : Nat} {L : List Ev} {e : Ev} {x2 x3 x4 x5 : Option Bs.D} (he : S[e0]? = some (.lst (L.map Ev.d))) (hi : L[i]? = some e) (hL : L.length < 1000) :
    ∃ y2 y3 y4 y5 T, evSs G lqBody [some (.ref e0), some (.int i), x2, x3, x4, x5] S = match faultQ (L.take i) e with
      | some d => .rt d (S ++ T)
      | none => if e.isDid = true then .nx [some (.ref e0), some (.int i), y2, y3, y4, y5] (S ++ T) else .ct [some (.ref e0), some (.int i), y2, y3, y4, y5] (S ++ T) := by
  have hlt := (List.getElem?_eq_some_iff.mp hi).1
  have z : (1000 : Nat) ≤ sizeLine := by decide
  have z3 : (3 : Nat) ≤ sizeLine := by decide
  have hat : ∀ S' : Store, S'[e0]? = some (.lst (L.map Ev.d)) → idxD (.ref e0) (.int i) S' = .ok e.d S' := fun S' h => by
    unfold idxD
    dsimp only
    rw [h]
    dsimp only
    rw [atI_nat, List.getElem?_map, hi]
    rfl
  have h0 := hat S he
  have hsp : lqBody = .cons (nth lqBody 0) (.cons (nth lqBody 1) (.cons (nth lqBody 2) (.cons (nth lqBody 3) (.cons (.for_ (.name 5) (.exp (.slc (.var 0) .none (.some (.var 1)))) liBody) (.cons (nth lqBody 5) (.cons (nth lqBody 6) .nil)))))) := rfl
  cases e with
  | call t c n op =>
    refine ⟨x2, x3, x4, x5, [], ?_⟩
    unfold Ev.d at h0
    simp [lqBody, bodyOf, nth, b12, evSs, evS, evE, evEs, evOr, IEs.isNil, ev2, ev1, evVar, evC, h0, cmpD, strN, truD, faultQ, Ev.isDid, idx_tup, atI, ixN, optD]
  | acc t c n a =>
    refine ⟨x2, x3, x4, x5, [], ?_⟩
    unfold Ev.d at h0
    simp [lqBody, bodyOf, nth, b12, evSs, evS, evE, evEs, evOr, IEs.isNil, ev2, ev1, evVar, evC, h0, cmpD, strN, truD, faultQ, Ev.isDid, idx_tup, atI, ixN, optD]
  | gone t =>
    refine ⟨x2, x3, x4, x5, [], ?_⟩
    unfold Ev.d at h0
    simp [lqBody, bodyOf, nth, b12, evSs, evS, evE, evEs, evOr, IEs.isNil, ev2, ev1, evVar, evC, h0, cmpD, strN, truD, faultQ, Ev.isDid, idx_tup, atI, ixN, optD]
  | did t s c n op =>
    have hq : (S ++ [O.lst ((L.take i).map Ev.d)])[S.length]? = some (.lst ((L.take i).map Ev.d)) := by simp
    obtain ⟨x5', hl⟩ := li_loop (G := G) (x0 := some (.ref e0)) (x1 := some (.int i)) (x5 := x5) (c := c) (n := n) (op := op) hq
    have hit : evT G (.exp (.slc (.var 0) .none (.some (.var 1)))) [some (.ref e0), some (.int i), some (recD c n op), some (.bl false), some (.bl false), x5] S = .ok (.live S.length) (S ++ [O.lst ((L.take i).map Ev.d)]) := by
      have hs : sliceL (L.map Ev.d) none (some (i : Int)) = (L.take i).map Ev.d := by rw [slice_to _ _ (by simp; omega), List.map_take]
      simp [evT, evE, evO, ev1, evVar, slcD, he, Bs.alloc, iterD, hs]
    have hlen : lenI (.live S.length) (S ++ [O.lst ((L.take i).map Ev.d)]) = (L.take i).length := by unfold lenI; dsimp only; rw [hq]; simp
    refine ⟨some (recD c n op), some (.bl (anyCall (L.take i) c n op)), some (.bl (anyDid (L.take i) c n)), x5', [O.lst ((L.take i).map Ev.d)], ?_⟩
    rw [hsp]
    unfold Ev.d at h0
    unfold recD at hit hl ⊢
    generalize L.take i = P at hq hl hit hlen ⊢
    cases c1 : anyCall P c n op with
    | false =>
      rw [c1] at hl
      simp [evSs, hit, hlen, hl, shutS, openI, lqBody, bodyOf, nth, b12, evS, evE, evEs, evOr, IEs.isNil, ev2, ev1, evVar, evC, h0, cmpD, strN, truD, faultQ, Ev.isDid, idx_tup, atI, ixN, optD, tgD, optS, c1, uncalled, z3]
    | true =>
      rw [c1] at hl
      cases c2 : anyDid P c n with
      | false =>
        rw [c2] at hl
        simp [evSs, hit, hlen, hl, shutS, openI, lqBody, bodyOf, nth, b12, evS, evE, evEs, evOr, IEs.isNil, ev2, ev1, evVar, evC, h0, cmpD, strN, truD, faultQ, Ev.isDid, idx_tup, atI, ixN, optD, tgD, optS, c1, c2, z3]
      | true =>
        rw [c2] at hl
        simp [evSs, hit, hlen, hl, shutS, openI, lqBody, bodyOf, nth, b12, evS, evE, evEs, evOr, IEs.isNil, ev2, ev1, evVar, evC, h0, cmpD, strN, truD, faultQ, Ev.isDid, idx_tup, atI, ixN, optD, tgD, optS, c1, c2, repeated, z3]
end
end K70

set_option Elab.async false
set_option linter.all false
set_option maxRecDepth 100000
set_option maxHeartbeats 2000000
/-! K70g: _law_requests: the loop; both agree. -/
namespace K70
open PySem PySem.Spec L2 Bs
theorem b12_eq : b12 = .cons (.for_ (.name 1) (.range1 (.bi .len (.cons (.var 0) .nil))) lqBody) (.cons (.ret (.cst .non)) .nil) := rfl
section
variable {G : Lang}
theorem end_runI {S : Store} {v : Bs.D} {xs : List Bs.D} {r : SR} (h : EndZ S v r) : ∃ T, resOf ((shutS (.items xs) r).seq (evSs G (.cons (.ret (.cst .non)) .nil))) = .ok v (S ++ T) := by
  rcases h with ⟨rho, T, rfl, rfl⟩ | ⟨T, rfl⟩
  · exact ⟨T, rfl⟩
  · exact ⟨T, rfl⟩
theorem get_ev {L : List Ev} {i : Nat} (hi : i < L.length) : ∃ ev, L[i]? = some ev ∧ L.take (i + 1) = L.take i ++ [ev] ∧ L.drop i = ev :: L.drop (i + 1) := by
  refine ⟨L[i], List.getElem?_eq_getElem hi, ?_, List.drop_eq_getElem_cons hi⟩
  rw [List.take_add_one, List.getElem?_eq_getElem hi]; rfl
theorem law_requests_ok {S : Store} {e0 : Nat} {L : List Ev} (he : S[e0]? = some (.lst (L.map Ev.d))) (hL : L.length < 1000) :
    ∃ T, runBody G 6 1 b12 [.ref e0] S = .ok (lawReq [] L) (S ++ T) := by
  have hb : -Bs.bound ≤ (L.length : Int) ∧ (L.length : Int) ≤ Bs.bound := by unfold Bs.bound; omega
  have loop : EndZ S (lawReq [] L) (forN (.items (rangeD 0 (L.length : Int))) (.name 1) (evSs G lqBody) (rangeD 0 (L.length : Int)).length 0 [some (.ref e0), none, none, none, none, none] S) := by
    refine for_rule (xs := rangeD 0 (L.length : Int)) (fun i rho S' => ∃ T x1 x2 x3 x4 x5, S' = S ++ T ∧ rho = [some (.ref e0), x1, x2, x3, x4, x5] ∧ lawReq (L.take i) (L.drop i) = lawReq [] L) (fun i rho S' _ => rfl) ?_ ?_ _ _ _ _ ⟨[], none, none, none, none, none, by simp, rfl, rfl⟩ (Nat.zero_le _) (by omega)
    · rintro i d rho S' hd ⟨T, x1, x2, x3, x4, x5, rfl, rfl, h5⟩
      rw [range_get] at hd
      by_cases hi : i < L.length
      · rw [if_pos hi] at hd
        cases hd
        obtain ⟨ev, e1, e2, e3⟩ := get_ev hi
        refine ⟨_, rfl, ?_⟩
        obtain ⟨y2, y3, y4, y5, T2, q⟩ := lq_step (G := G) (x2 := x2) (x3 := x3) (x4 := x4) (x5 := x5) (get_app (T := T) he) e1 hL
        show stepZ _ _ (evSs G lqBody [some (.ref e0), some (.int i), x2, x3, x4, x5] (S ++ T))
        rw [q]
        rw [e3] at h5
        have h5' : lawReq [] L = match faultQ (L.take i) ev with
          | some d => d
          | none => lawReq (L.take i ++ [ev]) (L.drop (i + 1)) := h5.symm
        cases hf : faultQ (L.take i) ev with
        | some d =>
          rw [hf] at h5'
          exact .inr ⟨T ++ T2, by rw [h5', List.append_assoc]⟩
        | none =>
          rw [hf] at h5'
          dsimp only
          split
          · exact ⟨T ++ T2, _, _, _, _, _, by rw [List.append_assoc], rfl, by rw [e2]; exact h5'.symm⟩
          · exact ⟨T ++ T2, _, _, _, _, _, by rw [List.append_assoc], rfl, by rw [e2]; exact h5'.symm⟩
      · rw [if_neg hi] at hd; cases hd
    · rintro rho S' ⟨T, x1, x2, x3, x4, x5, rfl, rfl, h5⟩
      rw [range_len, List.drop_length] at h5
      exact .inl ⟨_, T, rfl, h5.symm⟩
  obtain ⟨T, q⟩ := end_runI (G := G) (xs := rangeD 0 (L.length : Int)) loop
  refine ⟨T, ?_⟩
  rw [← q, b12_eq, runBody_eq (k := 1) (args := [.ref e0]) rfl]
  simp [evSs_cons, evS, evE, evEs, ev1, ev2, evVar, startE, evT, biD, he, hb.1, hb.2, lenI]
end

/-! ### both say the same -/
/-- a client calls with a number once -/
def Once (L : List Ev) : Prop := ∀ (i j : Nat) (t c n : Int) (op : Op) (t' : Int) (op' : Op), L[i]? = some (Ev.call t c n op) → L[j]? = some (Ev.call t' c n op') → i = j
theorem snoc_ind {α : Type} {M : List α → Prop} (h0 : M []) (h1 : ∀ P e, M P → M (P ++ [e])) (P : List α) : M P := by
  have : ∀ l : List α, M l.reverse := fun l => by
    induction l with
    | nil => exact h0
    | cons a r ih => rw [List.reverse_cons]; exact h1 _ _ ih
  have z := this P.reverse
  rwa [List.reverse_reverse] at z
theorem lastCall_some {P : List Ev} {c n : Int} {op : Op} (h : lastCall P c n = some op) : ∃ (i : Nat) (t : Int), P[i]? = some (Ev.call t c n op) := by
  revert op
  refine snoc_ind (M := fun P => ∀ {op : Op}, lastCall P c n = some op → ∃ (i : Nat) (t : Int), P[i]? = some (Ev.call t c n op)) (fun h => by cases h) (fun P e ih op h => ?_) P
  · rw [lastCall_app] at h
    have old : lastCall P c n = some op → ∃ (i : Nat) (t : Int), (P ++ [e])[i]? = some (Ev.call t c n op) := fun h =>
      let ⟨i, t, q⟩ := ih h
      ⟨i, t, by rw [List.getElem?_append_left (List.getElem?_eq_some_iff.mp q).1]; exact q⟩
    cases e with
    | call t c' n' op' =>
      dsimp only at h
      by_cases e : c' = c ∧ n' = n
      · rw [if_pos e] at h
        obtain ⟨rfl, rfl⟩ := e
        cases h
        exact ⟨P.length, t, by simp⟩
      · rw [if_neg e] at h; exact old h
    | _ => exact old h
theorem lastCall_none {P : List Ev} {c n : Int} (h : lastCall P c n = none) : ∀ (i : Nat) (t : Int) (op : Op), P[i]? ≠ some (Ev.call t c n op) := by
  revert h
  refine snoc_ind (M := fun P => lastCall P c n = none → ∀ (i : Nat) (t : Int) (op : Op), P[i]? ≠ some (Ev.call t c n op)) (fun _ i t op q => by cases q) (fun P e ih h => ?_) P
  · rw [lastCall_app] at h
    have old : lastCall P c n = none → (∀ t op, e ≠ Ev.call t c n op) → ∀ (i : Nat) (t : Int) (op : Op), (P ++ [e])[i]? ≠ some (Ev.call t c n op) := fun h hn i t op q => by
      by_cases hi : i < P.length
      · rw [List.getElem?_append_left hi] at q; exact ih h i t op q
      · rw [List.getElem?_append_right (Nat.le_of_not_lt hi)] at q
        cases k : i - P.length with
        | zero => rw [k] at q; exact hn t op (by simpa using q)
        | succ k' => rw [k] at q; cases q
    cases e with
    | call t c' n' op' =>
      dsimp only at h
      by_cases e : c' = c ∧ n' = n
      · rw [if_pos e] at h; cases h
      · rw [if_neg e] at h
        exact old h fun t op z => e (by cases z; exact ⟨rfl, rfl⟩)
    | _ => exact old h fun t op z => by cases z
theorem callB_iff {c n : Int} {op : Op} {e : Ev} : callB c n op e = true ↔ ∃ t op', e = Ev.call t c n op' ∧ op'.d = op.d := by
  cases e with
  | call t c' n' op' =>
    unfold callB
    simp only [Bool.and_eq_true, decide_eq_true_eq]
    constructor
    · rintro ⟨rfl, rfl, h⟩; exact ⟨t, op', rfl, h⟩
    · rintro ⟨t', op'', h, h2⟩; cases h; exact ⟨rfl, rfl, h2⟩
  | _ => simp [callB]
theorem once_take {L : List Ev} {k : Nat} (h : Once L) : Once (L.take k) := fun i j t c n op t' op' h1 h2 => by
  rw [List.getElem?_take] at h1 h2
  split at h1 <;> split at h2 <;> first | (cases h1; done) | (cases h2; done) | exact h i j t c n op t' op' h1 h2
theorem anyCall_eq {P : List Ev} (h : Once P) (c n : Int) (op : Op) : (anyCall P c n op = false) ↔ (lastCall P c n).map Op.d ≠ some op.d := by
  cases e : lastCall P c n with
  | none =>
    have hn := lastCall_none e
    refine ⟨fun _ z => (by cases z), fun _ => ?_⟩
    unfold anyCall
    rw [List.any_eq_false]
    intro x hx hq
    obtain ⟨t, op', rfl, _⟩ := callB_iff.mp hq
    obtain ⟨i, hi⟩ := List.mem_iff_getElem?.mp hx
    exact hn i t op' hi
  | some op1 =>
    obtain ⟨i, t, hi⟩ := lastCall_some e
    rw [Option.map_some]
    refine ⟨fun h2 z => ?_, fun h2 => ?_⟩
    · unfold anyCall at h2
      rw [List.any_eq_false] at h2
      exact h2 _ (List.mem_of_getElem? hi) (callB_iff.mpr ⟨t, op1, rfl, Option.some.inj z⟩)
    · unfold anyCall
      rw [List.any_eq_false]
      intro x hx hq
      obtain ⟨t', op', rfl, hop⟩ := callB_iff.mp hq
      obtain ⟨j, hj⟩ := List.mem_iff_getElem?.mp hx
      have := h i j t c n op1 t' op' hi hj
      subst this
      rw [hi] at hj
      cases hj
      exact h2 (congrArg some hop)
theorem faults_eq {P : List Ev} (h : Once P) (e : Ev) : faultQ P e = faultR P e := by
  cases e with
  | did t s c n op =>
    unfold faultQ faultR
    dsimp only
    by_cases c1 : anyCall P c n op = false
    · rw [if_pos c1, if_pos ((anyCall_eq h c n op).mp c1)]
    · rw [if_neg c1, if_neg fun z => c1 ((anyCall_eq h c n op).mpr z)]
  | _ => rfl
theorem req_eq {L : List Ev} (h : Once L) : ∀ (r P : List Ev), L = P ++ r → lawReq P r = reqF P r
  | [], P, _ => rfl
  | e :: r, P, hL => by
    have hP : Once P := by
      have := once_take (k := P.length) h
      rw [hL, List.take_left] at this
      exact this
    have ih := req_eq h r (P ++ [e]) (by rw [hL]; simp)
    unfold lawReq reqF
    rw [faults_eq hP]
    cases faultR P e with
    | none => exact ih
    | some d => rfl
end K70

set_option Elab.async false
set_option linter.all false
set_option maxRecDepth 100000
set_option maxHeartbeats 2000000
/-! K70i: answer_fault. -/
namespace K70
open PySem PySem.Spec L2 Bs
def fdid (c n : Int) : List Ev → Nat → Option (Nat × Op)
  | [], _ => none
  | .did _ _ c' n' op :: r, j => if c' = c ∧ n' = n then some (j, op) else fdid c n r (j + 1)
  | _ :: r, j => fdid c n r (j + 1)
def firstDid (P : List Ev) (c n : Int) : Option (Nat × Op) := fdid c n P 0
theorem fdid_app (c n : Int) (e : Ev) : ∀ (P : List Ev) (j : Nat), fdid c n (P ++ [e]) j = match fdid c n P j with
    | some x => some x
    | none => fdid c n [e] (j + P.length)
  | [], j => by simp [fdid]
  | .did t s c' n' op :: r, j => by
    show (if c' = c ∧ n' = n then some (j, op) else fdid c n (r ++ [e]) (j + 1)) = match (if c' = c ∧ n' = n then some (j, op) else fdid c n r (j + 1)) with
      | some x => some x
      | none => fdid c n [e] (j + (r.length + 1))
    by_cases h : c' = c ∧ n' = n
    · rw [if_pos h, if_pos h]
    · rw [if_neg h, if_neg h, fdid_app c n e r (j + 1), show j + 1 + r.length = j + (r.length + 1) by omega]
  | .call t c' n' op :: r, j => by
    show fdid c n (r ++ [e]) (j + 1) = _
    rw [fdid_app c n e r (j + 1), show j + 1 + r.length = j + (r.length + 1) by omega]
    rfl
  | .gone t :: r, j => by
    show fdid c n (r ++ [e]) (j + 1) = _
    rw [fdid_app c n e r (j + 1), show j + 1 + r.length = j + (r.length + 1) by omega]
    rfl
  | .acc t c' n' a :: r, j => by
    show fdid c n (r ++ [e]) (j + 1) = _
    rw [fdid_app c n e r (j + 1), show j + 1 + r.length = j + (r.length + 1) by omega]
    rfl
theorem firstDid_app (P : List Ev) (e : Ev) (c n : Int) : firstDid (P ++ [e]) c n = match firstDid P c n with
    | some x => some x
    | none => match e with
      | .did _ _ c' n' op => if c' = c ∧ n' = n then some (P.length, op) else none
      | _ => none := by
  unfold firstDid
  rw [fdid_app]
  cases fdid c n P 0 with
  | some x => rfl
  | none =>
    dsimp only
    cases e <;> simp [fdid]
theorem fdid_lt (c n : Int) : ∀ (P : List Ev) (j i : Nat) (op : Op), fdid c n P j = some (i, op) → j ≤ i ∧ i < j + P.length
  | [], j, i, op, h => by cases h
  | .did t s c' n' op' :: r, j, i, op, h => by
    have h : (if c' = c ∧ n' = n then some (j, op') else fdid c n r (j + 1)) = some (i, op) := h
    by_cases e : c' = c ∧ n' = n
    · rw [if_pos e] at h
      cases h
      simp
    · rw [if_neg e] at h
      have := fdid_lt c n r (j + 1) i op h
      simp only [List.length_cons]
      omega
  | .call t c' n' op' :: r, j, i, op, h => by
    have := fdid_lt c n r (j + 1) i op h
    simp only [List.length_cons]
    omega
  | .gone t :: r, j, i, op, h => by
    have := fdid_lt c n r (j + 1) i op h
    simp only [List.length_cons]
    omega
  | .acc t c' n' a :: r, j, i, op, h => by
    have := fdid_lt c n r (j + 1) i op h
    simp only [List.length_cons]
    omega
def mAt (P : List Ev) : Kv := P.foldl (fun m e => match e with
  | .did _ _ _ _ op => chg m op
  | _ => m) []
theorem mAt_app (P : List Ev) (e : Ev) : mAt (P ++ [e]) = match e with
    | .did _ _ _ _ op => chg (mAt P) op
    | _ => mAt P := by
  unfold mAt
  rw [List.foldl_append]
  rfl
theorem chg_len (m : Kv) (op : Op) : (chg m op).length ≤ m.length + 1 := by
  cases op with
  | put k v => exact kput_len m k v
  | get k => exact Nat.le_succ _
  | drop k =>
    unfold chg
    dsimp only
    split
    · exact Nat.le_succ _
    · have := kdrop_len m k; omega
  | swap k a b =>
    unfold chg
    dsimp only
    split
    · exact kput_len m k b
    · exact Nat.le_succ _
  | page low lim => exact Nat.le_succ _
theorem mAt_len (P : List Ev) : (mAt P).length ≤ P.length := by
  refine snoc_ind (M := fun P => (mAt P).length ≤ P.length) (Nat.le_refl _) (fun P e ih => ?_) P
  rw [mAt_app, List.length_append]
  cases e with
  | did t s c n op => have := chg_len (mAt P) op; simp only [List.length_singleton]; omega
  | _ => simp only [List.length_singleton]; omega
def fitsA (m : Kv) (op : Op) (a : Bs.D) : Bool := match op with
  | .page low lim => fitsB m low lim a
  | op => decide (a = ansOf m op)
def missing (c n : Int) : Bs.D := .tup [.str [109, 105, 115, 115, 105, 110, 103], .int c, .int n]
def answer (c n : Int) : Bs.D := .tup [.str [97, 110, 115, 119, 101, 114], .int c, .int n]
def faultA (P : List Ev) : Ev → Option Bs.D
  | .acc _ c n a => match firstDid P c n with
    | none => some (missing c n)
    | some (j, op) => if fitsA (mAt (P.take j)) op a = true then none else some (answer c n)
  | _ => none
def ansF : List Ev → List Ev → Bs.D
  | _, [] => .non
  | P, e :: r => match faultA P e with
    | some d => d
    | none => ansF (P ++ [e]) r
/-- events that are well formed -/
def Ev.good : Ev → Bool
  | .did _ _ _ _ op => op.lim
  | .acc _ _ _ a => okP 20 a
  | _ => true
def afBody : ISs := bodyOf (nth b5 2)
theorem b5_eq : b5 = .cons (.asg (.name 1) (.dict0 false)) (.cons (.asg (.name 2) (.dict0 true)) (.cons (.for_ (.name 3) (.exp (.var 0)) afBody) (.cons (.ret (.cst .non)) .nil))) := rfl
/-- what is asked of the callees -/
structure Cal (G : Lang) : Prop where
  dr : ∀ (e : Ev) S, G.call 2 [e.d] S = .ok (.bl e.isDid) S
  ap : ∀ (S : Store) (r : Nat) (m : Kv) (op : Op) (hi : Bs.D), S[r]? = some (.dic false (kvD m)) → m.length < 64 → op.lim = true → ∃ T ans, G.call 1 [.ref r, op.d, hi] S = .ok ans (S.set r (.dic false (kvD (chg m op))) ++ T) ∧ (op.isPage = false → ans = ansOf m op)
  pf : ∀ (S : Store) (r : Nat) (m : Kv) (low : Sx) (lim : Int) (a : Bs.D), S[r]? = some (.dic false (kvD m)) → m.length < 64 → okP 60 a = true → ∃ T, G.call 4 [.ref r, .tup [.str [112, 97, 103, 101], .str low, .int lim], a] S = .ok (.bl (fitsB m low lim a)) (S ++ T)
section
variable {G : Lang}
theorem okans (m : Kv) (op : Op) : okP 5 (ansOf m op) = true := by
  cases op <;> unfold ansOf <;> dsimp only <;> (try split) <;> (try split) <;> rfl
theorem af_other (C : Cal G) {S : Store} {e : Ev} {x0 x1 x2 x4 x5 x6 x7 : Option Bs.D} (h : match e with
    | .gone _ => True
    | .call _ _ _ _ => True
    | _ => False) : evSs G afBody [x0, x1, x2, some e.d, x4, x5, x6, x7] S = .nx [x0, x1, x2, some e.d, x4, x5, x6, x7] S := by
  have hd := C.dr e S
  cases e with
  | acc => exact h.elim
  | did => exact h.elim
  | gone t =>
    unfold Ev.d at hd ⊢
    simp [afBody, bodyOf, nth, b5, evSs, evS, evE, evEs, ev2, ev1, evVar, evC, idx_tup, cmpD, strE, truD, optD, atI, ixN, hd, Ev.isDid]
  | call t c n a =>
    unfold Ev.d at hd ⊢
    simp [afBody, bodyOf, nth, b5, evSs, evS, evE, evEs, ev2, ev1, evVar, evC, idx_tup, cmpD, strE, truD, optD, atI, ixN, hd, Ev.isDid]
theorem af_did (C : Cal G) {S : Store} {t s c n : Int} {op : Op} {A B : Nat} {m : Kv} {dn : List (Bs.D × Bs.D)} {x0 x4 x5 x6 x7 : Option Bs.D} (hA : S[A]? = some (.dic false (kvD m))) (hB : S[B]? = some (.dit dn)) (hm : m.length < 64) (hop : op.lim = true) (hl : dn.length < sizeLine) :
    ∃ T ans, (op.isPage = false → ans = ansOf m op) ∧ evSs G afBody [x0, some (.ref A), some (.ref B), some (Ev.did t s c n op).d, x4, x5, x6, x7] S =
      .nx [x0, some (.ref A), some (.ref B), some (Ev.did t s c n op).d, some (key c n), some op.d, some (.ref S.length), some ans]
        (if dget dn (key c n) = none then ((S ++ [O.dic false (kvD m)]).set A (O.dic false (kvD (chg m op))) ++ T).set B (O.dit (dput dn (key c n) (.tup [op.d, ans, .ref S.length]))) else (S ++ [O.dic false (kvD m)]).set A (O.dic false (kvD (chg m op))) ++ T) := by
  have hd := fun S => C.dr (.did t s c n op) S
  have z2 : (2 : Nat) ≤ sizeLine := by decide
  have z3 : (3 : Nat) ≤ sizeLine := by decide
  obtain ⟨T, ans, hc, ha⟩ := C.ap (S ++ [O.dic false (kvD m)]) A m op .non (get_app hA) hm hop
  have hne : A ≠ B := fun z => by subst z; rw [hA] at hB; cases hB
  have hB2 : ((S ++ [O.dic false (kvD m)]).set A (O.dic false (kvD (chg m op))) ++ T)[B]? = some (.dit dn) := by
    refine get_app ?_
    rw [List.getElem?_set_ne hne]
    exact get_app hB
  generalize hS2 : (S ++ [O.dic false (kvD m)]).set A (O.dic false (kvD (chg m op))) ++ T = S2 at hc hB2
  refine ⟨T, ans, ha, ?_⟩
  rw [hS2]
  unfold key
  unfold Ev.d at hd ⊢
  cases e : dget dn (.tup [.int c, .int n]) with
  | none => simp [afBody, bodyOf, nth, b5, evSs, evS, evE, evEs, ev2, ev1, evVar, evC, idx_tup, cmpD, inD, blD, strE, truD, optD, atI, ixN, hd, Ev.isDid, tgD, optS, biD, hA, Bs.alloc, hc, hB2, isKeyT, e, setD, hl, putS, z2, z3]
  | some v => simp [afBody, bodyOf, nth, b5, evSs, evS, evE, evEs, ev2, ev1, evVar, evC, idx_tup, cmpD, inD, blD, strE, truD, optD, atI, ixN, hd, Ev.isDid, tgD, optS, biD, hA, Bs.alloc, hc, hB2, isKeyT, e, setD, hl, putS, z2, z3]
theorem af_miss (C : Cal G) {S : Store} {t c n : Int} {a : Bs.D} {B : Nat} {dn : List (Bs.D × Bs.D)} {x0 x1 x4 x5 x6 x7 : Option Bs.D} (hB : S[B]? = some (.dit dn)) (h : dget dn (key c n) = none) :
    evSs G afBody [x0, x1, some (.ref B), some (Ev.acc t c n a).d, x4, x5, x6, x7] S = .rt (missing c n) S := by
  have hd := fun S => C.dr (.acc t c n a) S
  have z2 : (2 : Nat) ≤ sizeLine := by decide
  have z3 : (3 : Nat) ≤ sizeLine := by decide
  unfold key at h
  unfold Ev.d at hd ⊢
  simp [afBody, bodyOf, nth, b5, evSs, evS, evE, evEs, ev2, ev1, evVar, evC, idx_tup, cmpD, inD, blD, strE, truD, optD, atI, ixN, hd, Ev.isDid, tgD, optS, hB, isKeyT, h, z2, z3, missing]
theorem af_acc (C : Cal G) {S : Store} {t c n : Int} {a : Bs.D} {op : Op} {ans : Bs.D} {b B : Nat} {m : Kv} {dn : List (Bs.D × Bs.D)} {x0 x1 x4 x5 x6 x7 : Option Bs.D} (hB : S[B]? = some (.dit dn)) (h : dget dn (key c n) = some (.tup [op.d, ans, .ref b])) (hb : S[b]? = some (.dic false (kvD m))) (hm : m.length < 64)
    (ha : okP 60 a = true) (hans : op.isPage = false → ans = ansOf m op) :
    ∃ y4 y5 y6 y7 T, evSs G afBody [x0, x1, some (.ref B), some (Ev.acc t c n a).d, x4, x5, x6, x7] S = if fitsA m op a = true then .nx [x0, x1, some (.ref B), some (Ev.acc t c n a).d, y4, y5, y6, y7] (S ++ T) else .rt (answer c n) (S ++ T) := by
  have hd := fun S => C.dr (.acc t c n a) S
  have z2 : (2 : Nat) ≤ sizeLine := by decide
  have z3 : (3 : Nat) ≤ sizeLine := by decide
  unfold key at h
  cases op with
  | page low lim =>
    obtain ⟨T, hp⟩ := C.pf S b m low lim a hb hm ha
    refine ⟨some (key c n), some (Op.page low lim).d, some (.ref b), some ans, T, ?_⟩
    unfold Ev.d at hd ⊢
    unfold Op.d at h
    unfold fitsA
    dsimp only at h ⊢
    by_cases e : fitsB m low lim a = true
    rotate_left
    · have e' : fitsB m low lim a = false := by simpa using e
      rw [e'] at hp; simp [afBody, bodyOf, nth, b5, evSs, evS, evE, evEs, ev2, ev1, evVar, evC, idx_tup, cmpD, inD, idxD, blD, strE, truD, optD, atI, ixN, hd, Ev.isDid, tgD, optS, hB, isKeyT, h, z2, z3, answer, hp, e']
    · rw [e] at hp; simp [afBody, bodyOf, nth, b5, evSs, evS, evE, evEs, ev2, ev1, evVar, evC, idx_tup, cmpD, inD, idxD, blD, strE, truD, optD, atI, ixN, hd, Ev.isDid, tgD, optS, hB, isKeyT, h, z2, z3, answer, hp, Op.d, key, e]
  | put k v =>
    have e1 := hans rfl
    subst e1
    have hn : ∀ S, neD a (ansOf m (.put k v)) S = .ok (.bl (!decide (a = ansOf m (.put k v)))) S := fun S => Bs.neD_ok ha (okP_mono 5 60 _ (by decide) (okans m _))
    have hf : fitsA m (.put k v) a = decide (a = ansOf m (.put k v)) := rfl
    rw [hf]
    generalize ansOf m (.put k v) = an at h hn ⊢
    refine ⟨some (key c n), some (Op.d (.put k v)), some (.ref b), some an, [], ?_⟩
    unfold Ev.d at hd ⊢
    unfold Op.d at h
    dsimp only at h
    by_cases ea : a = an
    · have hn2 : ∀ S, neD a an S = .ok (.bl false) S := fun S => by rw [hn, decide_eq_true ea]; rfl
      have et := eq_true ea
      simp [afBody, bodyOf, nth, b5, evSs, evS, evE, evEs, ev2, ev1, evVar, evC, idx_tup, cmpD, inD, idxD, blD, strE, truD, optD, atI, ixN, hd, Ev.isDid, tgD, optS, hB, isKeyT, h, z2, z3, hn2, et, Op.d, key]
    · have hn2 : ∀ S, neD a an S = .ok (.bl true) S := fun S => by rw [hn, decide_eq_false ea]; rfl
      simp [afBody, bodyOf, nth, b5, evSs, evS, evE, evEs, ev2, ev1, evVar, evC, idx_tup, cmpD, inD, idxD, blD, strE, truD, optD, atI, ixN, hd, Ev.isDid, tgD, optS, hB, isKeyT, h, z2, z3, hn2, ea, answer]
  | get k =>
    have e1 := hans rfl
    subst e1
    have hn : ∀ S, neD a (ansOf m (.get k)) S = .ok (.bl (!decide (a = ansOf m (.get k)))) S := fun S => Bs.neD_ok ha (okP_mono 5 60 _ (by decide) (okans m _))
    have hf : fitsA m (.get k) a = decide (a = ansOf m (.get k)) := rfl
    rw [hf]
    generalize ansOf m (.get k) = an at h hn ⊢
    refine ⟨some (key c n), some (Op.d (.get k)), some (.ref b), some an, [], ?_⟩
    unfold Ev.d at hd ⊢
    unfold Op.d at h
    dsimp only at h
    by_cases ea : a = an
    · have hn2 : ∀ S, neD a an S = .ok (.bl false) S := fun S => by rw [hn, decide_eq_true ea]; rfl
      have et := eq_true ea
      simp [afBody, bodyOf, nth, b5, evSs, evS, evE, evEs, ev2, ev1, evVar, evC, idx_tup, cmpD, inD, idxD, blD, strE, truD, optD, atI, ixN, hd, Ev.isDid, tgD, optS, hB, isKeyT, h, z2, z3, hn2, et, Op.d, key]
    · have hn2 : ∀ S, neD a an S = .ok (.bl true) S := fun S => by rw [hn, decide_eq_false ea]; rfl
      simp [afBody, bodyOf, nth, b5, evSs, evS, evE, evEs, ev2, ev1, evVar, evC, idx_tup, cmpD, inD, idxD, blD, strE, truD, optD, atI, ixN, hd, Ev.isDid, tgD, optS, hB, isKeyT, h, z2, z3, hn2, ea, answer]
  | drop k =>
    have e1 := hans rfl
    subst e1
    have hn : ∀ S, neD a (ansOf m (.drop k)) S = .ok (.bl (!decide (a = ansOf m (.drop k)))) S := fun S => Bs.neD_ok ha (okP_mono 5 60 _ (by decide) (okans m _))
    have hf : fitsA m (.drop k) a = decide (a = ansOf m (.drop k)) := rfl
    rw [hf]
    generalize ansOf m (.drop k) = an at h hn ⊢
    refine ⟨some (key c n), some (Op.d (.drop k)), some (.ref b), some an, [], ?_⟩
    unfold Ev.d at hd ⊢
    unfold Op.d at h
    dsimp only at h
    by_cases ea : a = an
    · have hn2 : ∀ S, neD a an S = .ok (.bl false) S := fun S => by rw [hn, decide_eq_true ea]; rfl
      have et := eq_true ea
      simp [afBody, bodyOf, nth, b5, evSs, evS, evE, evEs, ev2, ev1, evVar, evC, idx_tup, cmpD, inD, idxD, blD, strE, truD, optD, atI, ixN, hd, Ev.isDid, tgD, optS, hB, isKeyT, h, z2, z3, hn2, et, Op.d, key]
    · have hn2 : ∀ S, neD a an S = .ok (.bl true) S := fun S => by rw [hn, decide_eq_false ea]; rfl
      simp [afBody, bodyOf, nth, b5, evSs, evS, evE, evEs, ev2, ev1, evVar, evC, idx_tup, cmpD, inD, idxD, blD, strE, truD, optD, atI, ixN, hd, Ev.isDid, tgD, optS, hB, isKeyT, h, z2, z3, hn2, ea, answer]
  | swap k x y =>
    have e1 := hans rfl
    subst e1
    have hn : ∀ S, neD a (ansOf m (.swap k x y)) S = .ok (.bl (!decide (a = ansOf m (.swap k x y)))) S := fun S => Bs.neD_ok ha (okP_mono 5 60 _ (by decide) (okans m _))
    have hf : fitsA m (.swap k x y) a = decide (a = ansOf m (.swap k x y)) := rfl
    rw [hf]
    generalize ansOf m (.swap k x y) = an at h hn ⊢
    refine ⟨some (key c n), some (Op.d (.swap k x y)), some (.ref b), some an, [], ?_⟩
    unfold Ev.d at hd ⊢
    unfold Op.d at h
    dsimp only at h
    by_cases ea : a = an
    · have hn2 : ∀ S, neD a an S = .ok (.bl false) S := fun S => by rw [hn, decide_eq_true ea]; rfl
      have et := eq_true ea
      simp [afBody, bodyOf, nth, b5, evSs, evS, evE, evEs, ev2, ev1, evVar, evC, idx_tup, cmpD, inD, idxD, blD, strE, truD, optD, atI, ixN, hd, Ev.isDid, tgD, optS, hB, isKeyT, h, z2, z3, hn2, et, Op.d, key]
    · have hn2 : ∀ S, neD a an S = .ok (.bl true) S := fun S => by rw [hn, decide_eq_false ea]; rfl
      simp [afBody, bodyOf, nth, b5, evSs, evS, evE, evEs, ev2, ev1, evVar, evC, idx_tup, cmpD, inD, idxD, blD, strE, truD, optD, atI, ixN, hd, Ev.isDid, tgD, optS, hB, isKeyT, h, z2, z3, hn2, ea, answer]
end
end K70

set_option Elab.async false
set_option linter.all false
set_option maxRecDepth 100000
set_option maxHeartbeats 2000000
/-! K70j: answer_fault: the loop. -/
namespace K70
open PySem PySem.Spec L2 Bs
theorem set3a (S T : Store) (x y z : O) : (S ++ [x, y] ++ T).set S.length z = S ++ [z, y] ++ T := by
  rw [List.set_append_left _ _ (by simp), set2a]
theorem set3b (S T : Store) (x y z : O) : (S ++ [x, y] ++ T).set (S.length + 1) z = S ++ [x, z] ++ T := by
  rw [List.set_append_left _ _ (by simp), set2b]
theorem get3 (S T : Store) (x y : O) {b : Nat} (h : S.length + 2 ≤ b) : (S ++ [x, y] ++ T)[b]? = T[b - (S.length + 2)]? := by
  rw [List.getElem?_append_right (by simpa using h)]
  simp
theorem keep3 {S T T' : Store} {x y x' y' : O} {b : Nat} {o : O} (h : S.length + 2 ≤ b) (q : (S ++ [x, y] ++ T)[b]? = some o) : (S ++ [x', y'] ++ (T ++ T'))[b]? = some o := by
  rw [get3 _ _ _ _ h] at q ⊢
  exact get_app q
def Rdn (P : List Ev) (dn : List (Bs.D × Bs.D)) (S' : Store) (A : Nat) : Prop := ∀ c n, match firstDid P c n with
  | none => dget dn (key c n) = none
  | some (j, op) => ∃ ans b, dget dn (key c n) = some (.tup [op.d, ans, .ref b]) ∧ S'[b]? = some (.dic false (kvD (mAt (P.take j)))) ∧ A + 2 ≤ b ∧ (op.isPage = false → ans = ansOf (mAt (P.take j)) op)
theorem firstDid_lt {P : List Ev} {c n : Int} {j : Nat} {op : Op} (h : firstDid P c n = some (j, op)) : j < P.length := by
  have := fdid_lt c n P 0 j op h
  omega
theorem take_le {P : List Ev} {e : Ev} {j : Nat} (h : j ≤ P.length) : (P ++ [e]).take j = P.take j := by
  rw [List.take_append_of_le_length h]
/-- the store grows, nothing new is done -/
theorem Rdn.keep {P : List Ev} {dn : List (Bs.D × Bs.D)} {S1 S2 : Store} {A : Nat} {e : Ev} (r : Rdn P dn S1 A) (hs : ∀ b o, A + 2 ≤ b → S1[b]? = some o → S2[b]? = some o) (hn : ∀ c n, firstDid (P ++ [e]) c n = firstDid P c n) : Rdn (P ++ [e]) dn S2 A := by
  intro c n
  have q := r c n
  rw [hn]
  cases h : firstDid P c n with
  | none => rw [h] at q; exact q
  | some x =>
    obtain ⟨j, op⟩ := x
    rw [h] at q
    dsimp only at q ⊢
    rw [take_le (Nat.le_of_lt (firstDid_lt h))]
    obtain ⟨ans, b, q1, q2, q3, q4⟩ := q
    exact ⟨ans, b, q1, hs b _ q3 q2, q3, q4⟩
section
variable {G : Lang}
theorem answer_fault_ok (C : Cal G) {S : Store} {e0 : Nat} {L : List Ev} (he : S[e0]? = some (.lst (L.map Ev.d))) (hL : L.length ≤ 60) (hg : ∀ e ∈ L, e.good = true) :
    ∃ T, runBody G 8 1 b5 [.ref e0] S = .ok (ansF [] L) (S ++ T) := by
  have z : (1000 : Nat) ≤ sizeLine := by decide
  have loop : EndZ S (ansF [] L) (forN (.live e0) (.name 3) (evSs G afBody) (L.map Ev.d).length 0 [some (.ref e0), some (.ref S.length), some (.ref (S.length + 1)), none, none, none, none, none] (S ++ [.dic false [], .dit []])) := by
    refine for_rule (xs := L.map Ev.d) (fun i rho S' => ∃ dn T x3 x4 x5 x6 x7, S' = S ++ [.dic false (kvD (mAt (L.take i))), .dit dn] ++ T ∧ rho = [some (.ref e0), some (.ref S.length), some (.ref (S.length + 1)), x3, x4, x5, x6, x7] ∧
      Rdn (L.take i) dn S' S.length ∧ dn.length ≤ i ∧ ansF (L.take i) (L.drop i) = ansF [] L) ?_ ?_ ?_ _ _ _ _ ⟨[], [], none, none, none, none, none, by simp; rfl, rfl, fun c n => rfl, Nat.zero_le _, rfl⟩ (Nat.zero_le _) (by omega)
    · rintro i rho S' ⟨dn, T, x3, x4, x5, x6, x7, rfl, rfl, hr, hl, h5⟩
      unfold nextI
      dsimp only
      rw [get_app (get_app he)]
    · rintro i d rho S' hd ⟨dn, T, x3, x4, x5, x6, x7, hS, rfl, hr, hl, h5⟩
      obtain ⟨ev, e1, rfl, e2, e3, e4⟩ := take_ev hd
      have hgood := hg ev (List.mem_of_getElem? e1)
      rw [e3] at h5
      refine ⟨_, rfl, ?_⟩
      show stepZ _ _ (evSs G afBody [some (.ref e0), some (.ref S.length), some (.ref (S.length + 1)), some ev.d, x4, x5, x6, x7] S')
      have hA : S'[S.length]? = some (.dic false (kvD (mAt (L.take i)))) := by rw [hS]; exact get_app (get2a _ _ _)
      have hB : S'[S.length + 1]? = some (.dit dn) := by rw [hS]; exact get_app (get2b _ _ _)
      have hmlen : (mAt (L.take i)).length < 64 := by have := mAt_len (L.take i); have := List.length_take_le i L; omega
      have hlen : S'.length = S.length + 2 + T.length := by rw [hS]; simp; omega
      cases ev with
      | gone t =>
        rw [af_other C (by trivial)]
        refine ⟨dn, T, _, _, _, _, _, ?_, rfl, ?_, by omega, by rw [e2]; exact h5⟩
        · rw [e2, mAt_app]; exact hS
        · rw [e2]
          exact hr.keep (fun b o _ q => q) fun c n => by rw [firstDid_app]; cases firstDid (L.take i) c n <;> rfl
      | call t c n op =>
        rw [af_other C (by trivial)]
        refine ⟨dn, T, _, _, _, _, _, ?_, rfl, ?_, by omega, by rw [e2]; exact h5⟩
        · rw [e2, mAt_app]; exact hS
        · rw [e2]
          exact hr.keep (fun b o _ q => q) fun c n => by rw [firstDid_app]; cases firstDid (L.take i) c n <;> rfl
      | acc t c n a =>
        have ha : okP 60 a = true := okP_mono 20 60 a (by decide) hgood
        have hq := hr c n
        have h5' : ansF [] L = match faultA (L.take i) (.acc t c n a) with
          | some d => d
          | none => ansF (L.take i ++ [.acc t c n a]) (L.drop (i + 1)) := h5.symm
        unfold faultA at h5'
        dsimp only at h5'
        cases hf : firstDid (L.take i) c n with
        | none =>
          rw [hf] at hq h5'
          rw [af_miss C hB hq]
          refine .inr ⟨[.dic false (kvD (mAt (L.take i))), .dit dn] ++ T, ?_⟩
          rw [h5', hS, List.append_assoc]
        | some x =>
          obtain ⟨j, op⟩ := x
          rw [hf] at hq h5'
          dsimp only at hq h5'
          obtain ⟨ans, b, q1, q2, q3, q4⟩ := hq
          have hm2 : (mAt ((L.take i).take j)).length < 64 := by
            have := mAt_len ((L.take i).take j)
            have : ((L.take i).take j).length ≤ L.length := by rw [List.length_take, List.length_take]; omega
            omega
          obtain ⟨y4, y5, y6, y7, T2, q⟩ := af_acc C (t := t) (x0 := some (.ref e0)) (x1 := some (.ref S.length)) (x4 := x4) (x5 := x5) (x6 := x6) (x7 := x7) hB q1 q2 hm2 ha q4
          rw [q]
          by_cases hfit : fitsA (mAt ((L.take i).take j)) op a = true
          · rw [if_pos hfit] at h5' ⊢
            refine ⟨dn, T ++ T2, _, _, _, _, _, ?_, rfl, ?_, by omega, by rw [e2]; exact h5'.symm⟩
            · rw [e2, mAt_app, hS, List.append_assoc]
            · rw [e2]
              exact hr.keep (fun b o _ q => get_app q) fun c n => by rw [firstDid_app]; cases firstDid (L.take i) c n <;> rfl
          · rw [if_neg hfit] at h5' ⊢
            refine .inr ⟨[.dic false (kvD (mAt (L.take i))), .dit dn] ++ T ++ T2, ?_⟩
            rw [h5', hS]
            simp only [List.append_assoc]
      | did t s c n op =>
        obtain ⟨T2, ans, ha, q⟩ := af_did C (t := t) (s := s) (c := c) (n := n) (x0 := some (.ref e0)) (x4 := x4) (x5 := x5) (x6 := x6) (x7 := x7) hA hB hmlen hgood (by omega)
        rw [q]
        have hq := hr c n
        have hS2 : (S' ++ [O.dic false (kvD (mAt (L.take i)))]).set S.length (O.dic false (kvD (chg (mAt (L.take i)) op))) ++ T2 = S ++ [.dic false (kvD (chg (mAt (L.take i)) op)), .dit dn] ++ (T ++ ([O.dic false (kvD (mAt (L.take i)))] ++ T2)) := by
          rw [hS, List.append_assoc (S ++ [_, _]) T, set3a]
          simp only [List.append_assoc]
        rw [hS2]
        cases hf : firstDid (L.take i) c n with
        | none =>
          rw [hf] at hq
          dsimp only at hq
          rw [if_pos hq, set3b]
          refine ⟨dput dn (key c n) (.tup [op.d, ans, .ref S'.length]), T ++ ([O.dic false (kvD (mAt (L.take i)))] ++ T2), _, _, _, _, _, ?_, rfl, ?_, by have := dput_len (kvs := dn) (k := key c n) (d := .tup [op.d, ans, .ref S'.length]); omega, by rw [e2]; exact h5⟩
          · rw [e2, mAt_app]
          · rw [e2]
            intro c' n'
            rw [firstDid_app, dget_dput]
            have q' := hr c' n'
            by_cases e : c = c' ∧ n = n'
            · obtain ⟨rfl, rfl⟩ := e
              rw [hf]
              simp only [and_self, if_true]
              refine ⟨ans, S'.length, rfl, ?_, by omega, fun hp => ?_⟩
              · rw [List.take_left]
                rw [get3 _ _ _ _ (by omega), hlen]
                have e9 : S.length + 2 + T.length - (S.length + 2) = T.length := by omega
                rw [e9, List.getElem?_append_right (Nat.le_refl _)]
                simp
              · rw [List.take_left]; exact ha hp
            · have e' : ¬ key c' n' = key c n := fun zz => e (by have := key_inj.mp zz; exact ⟨this.1.symm, this.2.symm⟩)
              simp only [e', if_false]
              cases hf' : firstDid (L.take i) c' n' with
              | none =>
                rw [hf'] at q'
                simp only [e, if_false]
                exact q'
              | some x =>
                obtain ⟨j, op'⟩ := x
                rw [hf'] at q'
                dsimp only at q' ⊢
                rw [take_le (Nat.le_of_lt (firstDid_lt hf'))]
                obtain ⟨an, b, q1, q2, q3, q4⟩ := q'
                rw [hS] at q2
                exact ⟨an, b, q1, keep3 q3 q2, q3, q4⟩
        | some x =>
          obtain ⟨j, op'⟩ := x
          rw [hf] at hq
          dsimp only at hq
          obtain ⟨an, b, q1, q2, q3, q4⟩ := hq
          rw [if_neg (by rw [q1]; simp)]
          refine ⟨dn, T ++ ([O.dic false (kvD (mAt (L.take i)))] ++ T2), _, _, _, _, _, ?_, rfl, ?_, by omega, by rw [e2]; exact h5⟩
          · rw [e2, mAt_app]
          · rw [e2]
            refine hr.keep (fun b o hb q => by rw [hS] at q; exact keep3 hb q) fun c' n' => ?_
            rw [firstDid_app]
            cases hf' : firstDid (L.take i) c' n' with
            | some y => rfl
            | none =>
              dsimp only
              rw [if_neg]
              rintro ⟨rfl, rfl⟩
              rw [hf] at hf'; cases hf'
    · rintro rho S' ⟨dn, T, x3, x4, x5, x6, x7, rfl, rfl, hr, hl, h5⟩
      rw [List.length_map, List.drop_length] at h5
      exact .inl ⟨_, _, by rw [List.append_assoc], h5.symm⟩
  have hlen : lenI (.live e0) (S ++ [.dic false [], .dit []]) = (L.map Ev.d).length := by unfold lenI; dsimp only; rw [get_app he]
  obtain ⟨T, q⟩ := end_run (G := G) (n := e0) loop
  refine ⟨T, ?_⟩
  rw [← q, ← hlen, b5_eq, runBody_eq (k := 1) (args := [.ref e0]) rfl]
  simp [evSs_cons, evS, evE, ev1, evVar, startE, Bs.alloc, tgD, optS, evT, iterD, get_app he]
end
end K70

set_option Elab.async false
set_option linter.all false
set_option maxRecDepth 100000
set_option maxHeartbeats 2000000
/-! K70k: the law's small functions: _law_op, _law_answer, _law_change, _law_fits. -/
namespace K70
open PySem PySem.Spec L2 Bs
/-! ### _law_op -/
def opKey : IE := .idx (.lst (.cons (.cst (.str [97])) (.cons (.cst (.str [98])) (.cons (.cst (.str [98, 97])) (.cons (.cst (.str [99])) .nil))))) (.bin .mod (.bi .int (.cons (.var 0) .nil)) (.cst (.int 4)))
def opVal : IE := .idx (.lst (.cons (.cst (.str [120])) (.cons (.cst (.str [121])) (.cons (.cst (.str [])) .nil)))) (.bin .mod (.bi .int (.cons (.bin .fdiv (.var 0) (.cst (.int 4))) .nil)) (.cst (.int 3)))
def opLow : IE := .idx (.lst (.cons (.cst (.str [])) (.cons (.cst (.str [97])) (.cons (.cst (.str [98, 98])) .nil)))) (.bin .mod (.bi .int (.cons (.bin .fdiv (.var 0) (.cst (.int 4))) .nil)) (.cst (.int 3)))
def opLim : IE := .bin .add (.cst (.int 1)) (.bin .mod (.bi .int (.cons (.bin .fdiv (.var 0) (.cst (.int 12))) .nil)) (.cst (.int 4)))
def opFive : IE := .lst (.cons (.tup (.cons (.cst (.str [112, 117, 116])) (.cons (.var 1) (.cons (.var 2) .nil)))) (.cons (.tup (.cons (.cst (.str [112, 117, 116])) (.cons (.var 1) (.cons (.bin .add (.var 2) (.cst (.str [122]))) .nil)))) (.cons (.tup (.cons (.cst (.str [103, 101, 116])) (.cons (.var 1) .nil))) (.cons (.tup (.cons (.cst (.str [100, 114, 111, 112])) (.cons (.var 1) .nil))) (.cons (.tup (.cons (.cst (.str [115, 119, 97, 112])) (.cons (.var 1) (.cons (.var 2) (.cons (.cst (.str [119])) .nil))))) .nil)))))
def opPage : IE := .lst (.cons (.tup (.cons (.cst (.str [112, 97, 103, 101])) (.cons opLow (.cons opLim .nil)))) .nil)
def opPick : IE := .idx (.var 3) (.bin .mod (.bi .int (.cons (.bin .fdiv (.var 0) (.cst (.int 60))) .nil)) (.cst (.int 6)))
theorem b7_eq : b7 = .cons (.asg (.name 1) opKey) (.cons (.asg (.name 2) opVal) (.cons (.asg (.name 3) opFive) (.cons (.asg (.name 3) (.bin .add (.var 3) opPage)) (.cons (.ret opPick) .nil)))) := rfl
theorem bi_int (i : Int) (S : Store) : biD .int [.int i] S = .ok (.int i) S := rfl
theorem lim_ge : (1000 : Int) < Bs.lim := by decide
section
variable {G : Lang}
theorem opKey_ok (c : Int) (x1 x2 x3 : Option Bs.D) (S : Store) : ∃ k o, evE G opKey [some (.int c), x1, x2, x3] S = .ok (.str k) (S ++ [o]) := by
  have z4 : (4 : Nat) ≤ sizeLine := by decide
  have h : c % 4 = 0 ∨ c % 4 = 1 ∨ c % 4 = 2 ∨ c % 4 = 3 := by omega
  rcases h with h | h | h | h <;> exact ⟨_, _, by simp [opKey, evE, evEs, ev2, ev1, evVar, evC, biD, binD, modD, h, Bs.alloc, idxD, atI, ixN, optD, z4]; exact ⟨rfl, rfl⟩⟩
theorem opVal_ok (c : Int) (x1 x2 x3 : Option Bs.D) (S : Store) : ∃ k o, k.length ≤ 1 ∧ evE G opVal [some (.int c), x1, x2, x3] S = .ok (.str k) (S ++ [o]) := by
  have z4 : (3 : Nat) ≤ sizeLine := by decide
  have l1 : (4 : Int) < Bs.lim := by decide
  have h : c / 4 % 3 = 0 ∨ c / 4 % 3 = 1 ∨ c / 4 % 3 = 2 := by omega
  rcases h with h | h | h
  · exact ⟨[120], _, by decide, by simp [opVal, evE, evEs, ev2, ev1, evVar, evC, biD, binD, modD, fdivD, l1, h, Bs.alloc, idxD, atI, ixN, optD, z4]; rfl⟩
  · exact ⟨[121], _, by decide, by simp [opVal, evE, evEs, ev2, ev1, evVar, evC, biD, binD, modD, fdivD, l1, h, Bs.alloc, idxD, atI, ixN, optD, z4]; rfl⟩
  · exact ⟨[], _, by decide, by simp [opVal, evE, evEs, ev2, ev1, evVar, evC, biD, binD, modD, fdivD, l1, h, Bs.alloc, idxD, atI, ixN, optD, z4]; rfl⟩
theorem opLow_ok (c : Int) (x1 x2 x3 : Option Bs.D) (S : Store) : ∃ k o, k.length ≤ 9 ∧ evE G opLow [some (.int c), x1, x2, x3] S = .ok (.str k) (S ++ [o]) := by
  have z4 : (3 : Nat) ≤ sizeLine := by decide
  have l1 : (4 : Int) < Bs.lim := by decide
  have h : c / 4 % 3 = 0 ∨ c / 4 % 3 = 1 ∨ c / 4 % 3 = 2 := by omega
  rcases h with h | h | h
  · exact ⟨[], _, by decide, by simp [opLow, evE, evEs, ev2, ev1, evVar, evC, biD, binD, modD, fdivD, l1, h, Bs.alloc, idxD, atI, ixN, optD, z4]; rfl⟩
  · exact ⟨[97], _, by decide, by simp [opLow, evE, evEs, ev2, ev1, evVar, evC, biD, binD, modD, fdivD, l1, h, Bs.alloc, idxD, atI, ixN, optD, z4]; rfl⟩
  · exact ⟨[98, 98], _, by decide, by simp [opLow, evE, evEs, ev2, ev1, evVar, evC, biD, binD, modD, fdivD, l1, h, Bs.alloc, idxD, atI, ixN, optD, z4]; rfl⟩
theorem opLim_ok (c : Int) (x1 x2 x3 : Option Bs.D) (S : Store) : ∃ l, 0 ≤ l ∧ evE G opLim [some (.int c), x1, x2, x3] S = .ok (.int l) S := by
  have l1 : (12 : Int) < Bs.lim := by decide
  exact ⟨1 + c / 12 % 4, by omega, by simp [opLim, evE, evEs, ev2, ev1, evVar, evC, biD, binD, modD, fdivD, l1, addD]⟩
theorem law_op_ok (c : Int) (S : Store) : ∃ (op : Op) (T : Store), op.lim = true ∧ runBody G 4 1 b7 [.int c] S = .ok op.d (S ++ T) := by
  have z1 : (1 : Nat) ≤ sizeLine := by decide
  have z2 : (2 : Nat) ≤ sizeLine := by decide
  have z3 : (3 : Nat) ≤ sizeLine := by decide
  have z4 : (4 : Nat) ≤ sizeLine := by decide
  have z5 : (5 : Nat) ≤ sizeLine := by decide
  have z6 : (6 : Nat) ≤ sizeLine := by decide
  have l1 : (60 : Int) < Bs.lim := by decide
  obtain ⟨k, o1, h1⟩ := opKey_ok (G := G) c none none none S
  obtain ⟨v, o2, hv, h2⟩ := opVal_ok (G := G) c (some (.str k)) none none (S ++ [o1])
  have hv2 : v.length + 1 ≤ sizeLine := by omega
  have h3 : evE G opFive [some (.int c), some (.str k), some (.str v), none] (S ++ [o1] ++ [o2]) = .ok (.ref (S ++ [o1] ++ [o2]).length) (S ++ [o1] ++ [o2] ++ [.lst [(Op.put k v).d, (Op.put k (v ++ [122])).d, (Op.get k).d, (Op.drop k).d, (Op.swap k v [119]).d]]) := by
    simp [opFive, evE, evEs, ev2, ev1, evVar, evC, binD, addD, hv2, Bs.alloc, z2, z3, z4, z5, Op.d]
  generalize hS3 : S ++ [o1] ++ [o2] = S3 at h2 h3
  obtain ⟨low, o4, hlow, h4⟩ := opLow_ok (G := G) c (some (.str k)) (some (.str v)) (some (.ref S3.length)) (S3 ++ [.lst [(Op.put k v).d, (Op.put k (v ++ [122])).d, (Op.get k).d, (Op.drop k).d, (Op.swap k v [119]).d]])
  obtain ⟨l, hl, h5⟩ := opLim_ok (G := G) c (some (.str k)) (some (.str v)) (some (.ref S3.length)) (S3 ++ [.lst [(Op.put k v).d, (Op.put k (v ++ [122])).d, (Op.get k).d, (Op.drop k).d, (Op.swap k v [119]).d]] ++ [o4])
  have h6 : evE G opPage [some (.int c), some (.str k), some (.str v), some (.ref S3.length)] (S3 ++ [.lst [(Op.put k v).d, (Op.put k (v ++ [122])).d, (Op.get k).d, (Op.drop k).d, (Op.swap k v [119]).d]]) =
      .ok (.ref (S3.length + 2)) (S3 ++ [.lst [(Op.put k v).d, (Op.put k (v ++ [122])).d, (Op.get k).d, (Op.drop k).d, (Op.swap k v [119]).d], o4, .lst [(Op.page low l).d]]) := by
    unfold opPage
    simp only [evE, evEs, ev2, ev1, evC, h4, h5, bind_ok, List.length_cons, List.length_nil]
    simp [Bs.alloc, z1, z3, Op.d]
  generalize hF : [(Op.put k v).d, (Op.put k (v ++ [122])).d, (Op.get k).d, (Op.drop k).d, (Op.swap k v [119]).d] = F at h3 h6
  have hFl : F.length = 5 := by rw [← hF]; rfl
  have ga : (S3 ++ [.lst F, o4, .lst [(Op.page low l).d]])[S3.length]? = some (.lst F) := by rw [List.getElem?_append_right (Nat.le_refl _)]; simp
  have gb : (S3 ++ [.lst F, o4, .lst [(Op.page low l).d]])[S3.length + 2]? = some (.lst [(Op.page low l).d]) := by rw [List.getElem?_append_right (by omega)]; simp
  have h7 : evE G (.bin .add (.var 3) opPage) [some (.int c), some (.str k), some (.str v), some (.ref S3.length)] (S3 ++ [.lst F]) = .ok (.ref (S3.length + 3)) (S3 ++ [.lst F, o4, .lst [(Op.page low l).d], .lst (F ++ [(Op.page low l).d])]) := by
    simp only [evE, ev2, evVar, List.getElem?_cons_succ, List.getElem?_cons_zero, bind_ok, h6]
    unfold binD addD
    dsimp only
    rw [ga, gb]
    simp [hFl, Bs.alloc, z6]
  have gc : (S3 ++ [.lst F, o4, .lst [(Op.page low l).d], .lst (F ++ [(Op.page low l).d])])[S3.length + 3]? = some (.lst (F ++ [(Op.page low l).d])) := by rw [List.getElem?_append_right (by omega)]; simp
  have hop : ∃ (op : Op), op.lim = true ∧ atI (F ++ [(Op.page low l).d]) (c / 60 % 6) = some op.d := by
    have h : c / 60 % 6 = 0 ∨ c / 60 % 6 = 1 ∨ c / 60 % 6 = 2 ∨ c / 60 % 6 = 3 ∨ c / 60 % 6 = 4 ∨ c / 60 % 6 = 5 := by omega
    rw [← hF]
    rcases h with h | h | h | h | h | h <;> rw [h]
    · exact ⟨.put k v, rfl, rfl⟩
    · exact ⟨.put k (v ++ [122]), rfl, rfl⟩
    · exact ⟨.get k, rfl, rfl⟩
    · exact ⟨.drop k, rfl, rfl⟩
    · exact ⟨.swap k v [119], rfl, rfl⟩
    · exact ⟨.page low l, Bool.and_eq_true_iff.mpr ⟨decide_eq_true hl, decide_eq_true hlow⟩, rfl⟩
  obtain ⟨op, hop1, hop2⟩ := hop
  refine ⟨op, [o1, o2] ++ [.lst F, o4, .lst [(Op.page low l).d], .lst (F ++ [(Op.page low l).d])], hop1, ?_⟩
  have h8 : evE G opPick [some (.int c), some (.str k), some (.str v), some (.ref (S3.length + 3))] (S3 ++ [.lst F, o4, .lst [(Op.page low l).d], .lst (F ++ [(Op.page low l).d])]) = .ok op.d (S3 ++ [.lst F, o4, .lst [(Op.page low l).d], .lst (F ++ [(Op.page low l).d])]) := by
    unfold opPick
    simp only [evE, evEs, ev2, ev1, evVar, evC, List.getElem?_cons_succ, List.getElem?_cons_zero, bind_ok, binD, fdivD, modD, biD, l1]
    unfold idxD
    simp [bi_int, modD, gc, hop2, optD]
  have hS : S3 = S ++ [o1, o2] := by rw [← hS3]; simp
  rw [b7_eq, runBody_eq (k := 1) (args := [.int c]) rfl]
  have hn : ∀ rho S, evSs G .nil rho S = .nx rho S := fun _ _ => rfl
  rw [← List.append_assoc, ← hS]
  simp [evSs_cons, evS, startE, tgD, h1, optS, h2, h3, h7, h8, resOf]
end
end K70

set_option Elab.async false
set_option linter.all false
set_option maxRecDepth 100000
set_option maxHeartbeats 2000000
/-! K70l: _law_answer, _law_change, _law_fits. -/
namespace K70
open PySem PySem.Spec L2 Bs
def thenOf : IS → ISs
  | .if_ _ a _ => a
  | _ => .nil
def valOf : IS → IE
  | .asg _ e => e
  | .ret e => e
  | _ => .cst .non
def restOf : ISs → Nat → ISs
  | s, 0 => s
  | .cons _ r, n + 1 => restOf r n
  | .nil, _ => .nil
def anPage : ISs := thenOf (nth b8 1)
def anFound : IE := valOf (nth anPage 0)
def anEnd : ISs := restOf anPage 3
theorem anPage_eq : anPage = .cons (.asg (.name 4) anFound) (.cons (.asg (.name 5) (.idx (.var 1) (.cst (.int 2)))) (.cons (.if_ (.cmp .eq (.bin .mod (.bi .int (.cons (.var 2) .nil)) (.cst (.int 3))) (.cst (.int 0))) (.cons (.asg (.name 5) (.bin .mod (.bi .int (.cons (.bin .fdiv (.var 2) (.cst (.int 3))) .nil)) (.bin .add (.idx (.var 1) (.cst (.int 2))) (.cst (.int 1))))) .nil) .nil) anEnd)) := rfl
theorem b8_eq : b8 = .cons (.asg (.name 3) (.idx (.var 1) (.cst (.int 1)))) (.cons (.if_ (.cmp .eq (.idx (.var 1) (.cst (.int 0))) (.cst (.str [112, 97, 103, 101]))) anPage .nil) (restOf b8 2)) := rfl
section
variable {G : Lang}
theorem law_answer_ok {S : Store} {r : Nat} {m : Kv} {op : Op} {c : Int} (hr : S[r]? = some (.dic false (kvD m))) (hp : op.isPage = false) :
    runBody G 7 3 b8 [.ref r, op.d, .int c] S = .ok (ansOf m op) S := by
  have z1 : (1 : Nat) ≤ sizeLine := by decide
  have z2 : (2 : Nat) ≤ sizeLine := by decide
  cases op with
  | page low lim => cases hp
  | put k v => simp [runBody, b8, evSs, evS, evE, evEs, evAnd, IEs.isNil, ev2, ev1, evVar, evC, startE, idxD, cmpD, strE, strN, truD, optD, atI, ixN, Op.d, hr, isKey, ansOf, z1, tgD, optS]
  | get k =>
    cases e : kget m k <;> simp [runBody, b8, evSs, evS, evE, evEs, evAnd, IEs.isNil, ev2, ev1, evVar, evC, startE, idxD, cmpD, inD, blD, strE, strN, truD, optD, atI, ixN, Op.d, hr, isKey, ansOf, z1, z2, tgD, optS, dget_kv, e]
  | drop k =>
    cases e : kget m k <;> simp [runBody, b8, evSs, evS, evE, evEs, evAnd, IEs.isNil, ev2, ev1, evVar, evC, startE, idxD, cmpD, inD, blD, strE, strN, truD, optD, atI, ixN, Op.d, hr, isKey, ansOf, z1, z2, tgD, optS, dget_kv, e]
  | swap k a b =>
    cases e : kget m k with
    | none => simp [runBody, b8, evSs, evS, evE, evEs, evAnd, IEs.isNil, ev2, ev1, evVar, evC, startE, idxD, cmpD, inD, blD, strE, strN, truD, optD, atI, ixN, Op.d, hr, isKey, ansOf, z1, z2, tgD, optS, dget_kv, e]
    | some v =>
      by_cases ev : v = a <;> simp [runBody, b8, evSs, evS, evE, evEs, evAnd, IEs.isNil, ev2, ev1, evVar, evC, startE, idxD, cmpD, inD, blD, strE, strN, truD, optD, atI, ixN, Op.d, hr, isKey, ansOf, z1, z2, tgD, optS, dget_kv, e, ev]
theorem anFound_ok {S : Store} {r : Nat} {m : Kv} {low : Sx} {x1 x2 x4 x5 : Option Bs.D} (hr : S[r]? = some (.dic false (kvD m))) (hm : m.length < 64) :
    evE G anFound [some (.ref r), x1, x2, some (.str low), x4, x5, none] S = .ok (.ref (S.length + 1)) (S ++ [.lst (keysOf m), .lst (dueD m low none)]) := by
  have z : (64 : Nat) ≤ sizeLine := by decide
  have z2 : (2 : Nat) ≤ sizeLine := by decide
  have hi : evT G (.exp (.bi .sorted (.cons (.var 0) .nil))) [some (.ref r), x1, x2, some (.str low), x4, x5, none] S = .ok (.live S.length) (S ++ [.lst (keysOf m)]) := by
    simp [evT, evE, evEs, ev1, ev2, evVar, sorted_kv hr hm, Bs.alloc, iterD]
  have hc := comp_live (G := G) (elt := .tup (.cons (.var 6) (.cons (.idx (.var 0) (.var 6)) .nil))) (tg := .name 6) (cond := .some (.cmp .ge (.var 6) (.var 3))) (own := [6]) (xs := keysOf m) (fromD low none) (pairD m) hi (by simp) (by rw [keys_len]; omega) (fun d S' hd hS => by
      obtain ⟨k, v, rfl, hk⟩ := keys_mem hd
      have hr' := hS r _ (get_app hr)
      refine ⟨_, rfl, ?_, fun _ => ?_⟩
      · by_cases h : k ≥ low
        · simp [evC1, evE, ev1, ev2, evVar, cmpD, geD, truD, fromD, h]
        · have h' : k < low := Decidable.not_not.mp h
          simp [evC1, evE, ev1, ev2, evVar, cmpD, geD, truD, fromD, h, h']
      · simp [evE, evEs, ev1, ev2, evVar, idxD, hr', isKey, dget_kv, hk, optD, z2, pairD])
  show evE G (.comp (.tup (.cons (.var 6) (.cons (.idx (.var 0) (.var 6)) .nil))) (.name 6) (.exp (.bi .sorted (.cons (.var 0) .nil))) (.some (.cmp .ge (.var 6) (.var 3))) [6]) _ S = _
  rw [hc]
  simp [dueD]
theorem due_mem {m : Kv} {low : Sx} {after : Option Sx} {d : Bs.D} (h : d ∈ dueD m low after) : ∃ k v, d = .tup [.str k, .str v] := by
  unfold dueD at h
  obtain ⟨x, hx, rfl⟩ := List.mem_map.mp h
  obtain ⟨k, v, rfl, _⟩ := keys_mem (List.mem_filter.mp hx).1
  exact ⟨k, _, rfl⟩
theorem pairs_ok {l : List Bs.D} (h : ∀ d ∈ l, ∃ k v : Sx, d = .tup [.str k, .str v]) : okPs 5 l = true := by
  induction l with
  | nil => rfl
  | cons a r ih =>
    show (okP 5 a && okPs 5 r) = true
    obtain ⟨k, v, rfl⟩ := h a (by simp)
    rw [ih fun d hd => h d (by simp [hd])]
    rfl
theorem anEnd_ok {S : Store} {r q : Nat} {xs : List Bs.D} {low : Sx} {many c : Int} {x1 : Bs.D} (hq : S[q]? = some (.lst xs)) (hx : ∀ d ∈ xs, ∃ k v : Sx, d = .tup [.str k, .str v]) (hl : xs.length < 64) (hm : 0 ≤ many) (hlow : low.length ≤ 9) :
    ∃ T a, okP 10 a = true ∧ evSs G anEnd [some (.ref r), some x1, some (.int c), some (.str low), some (.ref q), some (.int many), none] S = .rt a (S ++ T) := by
  have z : (64 : Nat) ≤ sizeLine := by decide
  have z2 : (2 : Nat) ≤ sizeLine := by decide
  have z3 : (3 : Nat) ≤ sizeLine := by decide
  have hlow' : low.length + 1 ≤ sizeLine := by omega
  have okt : ∀ (l : List Bs.D) (x : Bs.D), (∀ d ∈ l, ∃ k v : Sx, d = .tup [.str k, .str v]) → okP 0 x = true → okP 10 (.tup [.str [112, 97, 103, 101], .tup l, x]) = true := fun l x h hx => by
    show (true && (okPs 8 l && (okP 9 x && true))) = true
    rw [okPs_mono 5 8 l (by decide) (pairs_ok h), okP_mono 0 9 x (by decide) hx]
    rfl
  by_cases h : many ≥ xs.length
  · have h2 : c % 2 = 0 ∨ c % 2 = 1 := by omega
    have hle : xs.length ≤ sizeLine := by omega
    rcases h2 with h2 | h2
    · refine ⟨[.lst [.non, .str [122, 122]]], .tup [.str [112, 97, 103, 101], .tup xs, .non], okt _ _ hx rfl, ?_⟩
      simp [anEnd, anPage, thenOf, restOf, nth, b8, evSs, evS, evE, evEs, ev2, ev1, evVar, evC, biD, itemsD, hq, cmpD, geD, h, truD, hle, binD, modD, h2, Bs.alloc, idxD, atI, ixN, optD, z2, z3]
    · refine ⟨[.lst [.non, .str [122, 122]]], .tup [.str [112, 97, 103, 101], .tup xs, .str [122, 122]], okt _ _ hx rfl, ?_⟩
      simp [anEnd, anPage, thenOf, restOf, nth, b8, evSs, evS, evE, evEs, ev2, ev1, evVar, evC, biD, itemsD, hq, cmpD, geD, h, truD, hle, binD, modD, h2, Bs.alloc, idxD, atI, ixN, optD, z2, z3]
  · have hlt : many.toNat < xs.length := by omega
    obtain ⟨k, v, hkv⟩ := hx _ (List.getElem_mem hlt)
    have hat : ∀ S' : Store, S'[q]? = some (.lst xs) → idxD (.ref q) (.int many) S' = .ok (.tup [.str k, .str v]) S' := fun S' h' => by
      unfold idxD
      dsimp only
      rw [h']
      dsimp only
      unfold atI ixN
      rw [if_pos hm, if_pos (by omega)]
      show optD xs[many.toNat]? S' = _
      rw [List.getElem?_eq_getElem hlt, hkv]
      rfl
    have h0 := hat S hq
    by_cases e : k = low
    · have h1 := slice_len xs none (some 1)
      have hle : (sliceL xs none (some 1)).length ≤ sizeLine := by omega
      refine ⟨[.lst (sliceL xs none (some 1))], .tup [.str [112, 97, 103, 101], .tup (sliceL xs none (some 1)), .str (low ++ [97])], okt _ _ (fun d hd => hx d (slice_mem hd)) rfl, ?_⟩
      simp [anEnd, anPage, thenOf, restOf, nth, b8, evSs, evS, evE, evEs, evO, ev2, ev1, evVar, evC, biD, itemsD, hq, cmpD, geD, h, truD, h0, idx_tup, atI, ixN, optD, strE, e, slcD, Bs.alloc, hle, binD, addD, hlow', z3]
    · have h1 := slice_len xs none (some many)
      have hle : (sliceL xs none (some many)).length ≤ sizeLine := by omega
      have h9 := hat (S ++ [.lst (sliceL xs none (some many))]) (get_app hq)
      refine ⟨[.lst (sliceL xs none (some many))], .tup [.str [112, 97, 103, 101], .tup (sliceL xs none (some many)), .str k], okt _ _ (fun d hd => hx d (slice_mem hd)) rfl, ?_⟩
      simp [anEnd, anPage, thenOf, restOf, nth, b8, evSs, evS, evE, evEs, evO, ev2, ev1, evVar, evC, biD, itemsD, hq, cmpD, geD, h, truD, h0, idx_tup, atI, ixN, optD, strE, e, slcD, Bs.alloc, hle, h9, z3]
theorem evSs_nil (rho : En) (S : Store) : evSs G .nil rho S = .nx rho S := rfl
theorem law_answer_all {S : Store} {r : Nat} {m : Kv} {op : Op} {c : Int} (hr : S[r]? = some (.dic false (kvD m))) (hm : m.length < 64) (hop : op.lim = true) :
    ∃ T a, okP 10 a = true ∧ (op.isPage = false → a = ansOf m op) ∧ runBody G 7 3 b8 [.ref r, op.d, .int c] S = .ok a (S ++ T) := by
  by_cases hp : op.isPage = true
  · cases op with
    | page low lim =>
      obtain ⟨hl1, hl2⟩ := Bool.and_eq_true_iff.mp hop
      have hl1 := of_decide_eq_true hl1
      have hl2 := of_decide_eq_true hl2
      have hf := fun x4 x5 => anFound_ok (G := G) (low := low) (x1 := some (Op.page low lim).d) (x2 := some (.int c)) (x4 := x4) (x5 := x5) hr hm
      have hg : (S ++ [O.lst (keysOf m), O.lst (dueD m low none)])[S.length + 1]? = some (.lst (dueD m low none)) := by
        rw [List.getElem?_append_right (by omega)]; simp
      have hdl : (dueD m low none).length < 64 := by
        unfold dueD
        rw [List.length_map]
        have := List.length_filter_le (fromD low none) (keysOf m)
        rw [keys_len] at this
        omega
      have l3 : (3 : Int) < Bs.lim := by decide
      rw [b8_eq, anPage_eq]
      unfold Op.d at hf ⊢
      dsimp only at hf ⊢
      by_cases h3 : c % 3 = 0
      · obtain ⟨T, a, ha, q⟩ := anEnd_ok (G := G) (r := r) (low := low) (c := c) (many := c / 3 % (lim + 1)) (x1 := .tup [.str [112, 97, 103, 101], .str low, .int lim]) hg (fun d hd => due_mem hd) hdl (Int.emod_nonneg _ (by omega)) hl2
        refine ⟨[O.lst (keysOf m), O.lst (dueD m low none)] ++ T, a, ha, fun z => by (cases z), ?_⟩
        have hl3 : (0 : Int) < lim + 1 := by omega
        rw [← List.append_assoc]
        simp [runBody, evSs_cons, evSs_nil, evS, evE, evEs, ev2, ev1, evVar, evC, startE, idx_tup, cmpD, strE, truD, optD, atI, ixN, tgD, optS, hf, biD, binD, modD, fdivD, addD, l3, intE, h3, hl3, q]
      · obtain ⟨T, a, ha, q⟩ := anEnd_ok (G := G) (r := r) (low := low) (c := c) (many := lim) (x1 := .tup [.str [112, 97, 103, 101], .str low, .int lim]) hg (fun d hd => due_mem hd) hdl hl1 hl2
        refine ⟨[O.lst (keysOf m), O.lst (dueD m low none)] ++ T, a, ha, fun z => by (cases z), ?_⟩
        rw [← List.append_assoc]
        simp [runBody, evSs_cons, evSs_nil, evS, evE, evEs, ev2, ev1, evVar, evC, startE, idx_tup, cmpD, strE, truD, optD, atI, ixN, tgD, optS, hf, biD, binD, modD, intE, h3, q]
    | _ => cases hp
  · have hp : op.isPage = false := by simpa using hp
    exact ⟨[], ansOf m op, okP_mono 5 10 _ (by decide) (okans m op), fun _ => rfl, by rw [law_answer_ok hr hp, List.append_nil]⟩
end
end K70

set_option Elab.async false
set_option linter.all false
set_option maxRecDepth 100000
set_option maxHeartbeats 2000000
/-! K70m: _law_change, _law_fits. -/
namespace K70
open PySem PySem.Spec L2 Bs
section
variable {G : Lang}
theorem mo_get {S : Store} {r : Nat} {lk : Bool} {kvs : List (Bs.D × Bs.D)} (h : S[r]? = some (.dic lk kvs)) : methOf G [103, 101, 116] (.ref r) S = .ok .dic S := by
  unfold methOf; dsimp only; rw [h]; rfl
theorem mo_pop {S : Store} {r : Nat} {lk : Bool} {kvs : List (Bs.D × Bs.D)} (h : S[r]? = some (.dic lk kvs)) : methOf G [112, 111, 112] (.ref r) S = .ok .dic S := by
  unfold methOf; dsimp only; rw [h]; rfl
theorem mo_getT {S : Store} {r : Nat} {kvs : List (Bs.D × Bs.D)} (h : S[r]? = some (.dit kvs)) : methOf G [103, 101, 116] (.ref r) S = .ok .dic S := by
  unfold methOf; dsimp only; rw [h]; rfl
theorem mo_app {S : Store} {r : Nat} {xs : List Bs.D} (h : S[r]? = some (.lst xs)) : methOf G [97, 112, 112, 101, 110, 100] (.ref r) S = .ok .lst S := by
  unfold methOf; dsimp only; rw [h]; rfl
theorem md_get {S : Store} {r : Nat} {lk : Bool} {kvs : List (Bs.D × Bs.D)} {k : Bs.D} (h : S[r]? = some (.dic lk kvs)) (hk : isKey k = true) : methD G [103, 101, 116] .dic (.ref r) [k] S = .ok ((dget kvs k).getD .non) S := by
  show dicM mGet r [k] S = _
  unfold dicM
  rw [h]
  dsimp only
  rw [if_pos rfl, if_pos hk]
theorem md_getT {S : Store} {r : Nat} {kvs : List (Bs.D × Bs.D)} {k d : Bs.D} (h : S[r]? = some (.dit kvs)) (hk : isKeyT k = true) : methD G [103, 101, 116] .dic (.ref r) [k, d] S = .ok ((dget kvs k).getD d) S := by
  show dicM mGet r [k, d] S = _
  unfold dicM
  rw [h]
  dsimp only
  rw [if_pos rfl, if_pos hk]
theorem md_pop {S : Store} {r : Nat} {kvs : List (Bs.D × Bs.D)} {k d : Bs.D} (h : S[r]? = some (.dic false kvs)) (hk : isKey k = true) : methD G [112, 111, 112] .dic (.ref r) [k, d] S = match dget kvs k with
    | some v => .ok v (S.set r (.dic false (ddrop kvs k)))
    | none => .ok d S := by
  show dicM mPop r [k, d] S = _
  unfold dicM
  rw [h]
  dsimp only
  rw [if_neg (by decide), if_pos ⟨rfl, rfl⟩, if_pos hk]
  rfl
theorem md_app {S : Store} {r : Nat} {xs : List Bs.D} {y : Bs.D} (h : S[r]? = some (.lst xs)) (hl : xs.length < sizeLine) : methD G [97, 112, 112, 101, 110, 100] .lst (.ref r) [y] S = .ok .non (S.set r (.lst (xs ++ [y]))) := by
  show lstM mAppend r [y] S = _
  unfold lstM
  rw [h]
  dsimp only
  rw [if_pos rfl, if_pos hl]
  rfl
theorem law_change_ok {S : Store} {r : Nat} {m : Kv} {op : Op} (hr : S[r]? = some (.dic false (kvD m))) (hm : m.length < 64) :
    runBody G 2 2 b9 [.ref r, op.d] S = .ok .non (S.set r (.dic false (kvD (chg m op)))) := by
  have hl : (kvD m).length < sizeLine := by
    have : (64 : Nat) ≤ sizeLine := by decide
    unfold kvD
    rw [List.length_map]
    omega
  have hs := set_same S r _ hr
  have nE : ∀ (b : Sx) (S : Store), eqD .non (.str b) S = .ok (.bl false) S := fun b S => by rw [Bs.eqD_ok rfl rfl]; simp
  cases op with
  | page low lim => simp [runBody, b9, evSs, evS, evE, evEs, evOr, evAnd, IEs.isNil, ev2, ev1, evVar, evC, startE, idx_tup, cmpD, strE, truD, optD, atI, ixN, Op.d, chg, hs]
  | get k => simp [runBody, b9, evSs, evS, evE, evEs, evOr, evAnd, IEs.isNil, ev2, ev1, evVar, evC, startE, idx_tup, cmpD, strE, truD, optD, atI, ixN, Op.d, chg, hs]
  | put k v => simp [runBody, b9, evSs, evS, evE, evEs, evOr, evAnd, IEs.isNil, ev2, ev1, evVar, evC, startE, idx_tup, cmpD, strE, truD, optD, atI, ixN, Op.d, chg, negD, setD, hr, isKey, hl, putS, dput_kv]
  | drop k =>
    have hp := fun d => md_pop (G := G) (k := .str k) (d := d) hr rfl
    cases e : kget m k with
    | none => simp [runBody, b9, evSs, evS, evE, evEs, evOr, evAnd, IEs.isNil, ev2, ev1, evVar, evC, startE, idx_tup, cmpD, strE, truD, optD, atI, ixN, Op.d, chg, mo_pop hr, hp, isKey, dget_kv, e, hs]
    | some v => simp [runBody, b9, evSs, evS, evE, evEs, evOr, evAnd, IEs.isNil, ev2, ev1, evVar, evC, startE, idx_tup, cmpD, strE, truD, optD, atI, ixN, Op.d, chg, mo_pop hr, hp, isKey, dget_kv, e, ddrop_kv]
  | swap k a b =>
    have hp := md_get (G := G) (k := .str k) hr rfl
    cases e : kget m k with
    | none => simp [runBody, b9, evSs, evS, evE, evEs, evOr, evAnd, IEs.isNil, ev2, ev1, evVar, evC, startE, idx_tup, cmpD, strE, truD, optD, atI, ixN, Op.d, chg, mo_get hr, hp, isKey, dget_kv, e, nE, hs]
    | some v =>
      by_cases ev : v = a
      · simp [runBody, b9, evSs, evS, evE, evEs, evOr, evAnd, IEs.isNil, ev2, ev1, evVar, evC, startE, idx_tup, cmpD, strE, truD, optD, atI, ixN, Op.d, chg, mo_get hr, hp, isKey, dget_kv, e, ev, negD, setD, hr, hl, putS, dput_kv]
      · simp [runBody, b9, evSs, evS, evE, evEs, evOr, evAnd, IEs.isNil, ev2, ev1, evVar, evC, startE, idx_tup, cmpD, strE, truD, optD, atI, ixN, Op.d, chg, mo_get hr, hp, isKey, dget_kv, e, ev, hs]
/-! ### _law_fits -/
def b11r : ISs := restOf b11 4
theorem lf_end {S : Store} {r : Nat} {m : Kv} {low : Sx} {lim : Int} {t pairs af : Bs.D} {after : Option Sx} (hr : S[r]? = some (.dic false (kvD m))) (hm : m.length < 64) (hp : okP 60 pairs = true) (haf : af = match after with | none => .non | some z => .str z) :
    evSs G b11r [some (.tup [.str [112, 97, 103, 101], .str low, .int lim]), some (.tup [t, pairs, af]), some (.ref r), some af, none, none] S =
      .rt (.bl (decide (((dueD m low after).length : Int) ≤ lim) && decide (pairs = .tup (dueD m low after)))) (S ++ [.lst (keysOf m), .lst (dueD m low after)]) := by
  have z : (64 : Nat) ≤ sizeLine := by decide
  have z2 : (2 : Nat) ≤ sizeLine := by decide
  have hi : evT G (.exp (.bi .sorted (.cons (.var 2) .nil))) [some (.tup [.str [112, 97, 103, 101], .str low, .int lim]), some (.tup [t, pairs, af]), some (.ref r), some af, none, none] S = .ok (.live S.length) (S ++ [.lst (keysOf m)]) := by
    simp [evT, evE, evEs, ev1, ev2, evVar, sorted_kv hr hm, Bs.alloc, iterD]
  have hc := comp_live (G := G) (elt := .tup (.cons (.var 5) (.cons (.idx (.var 2) (.var 5)) .nil))) (tg := .name 5) (cond := .some (.and_ (.cons (.cmp .ge (.var 5) (.idx (.var 0) (.cst (.int 1)))) (.cons (.or_ (.cons (.isn (.var 3)) (.cons (.cmp .lt (.var 5) (.var 3)) .nil))) .nil)))) (own := [5]) (xs := keysOf m)
    (fromD low after) (pairD m) hi (by simp) (by rw [keys_len]; omega) (fun d S' hd hS => by
      obtain ⟨k, v, rfl, hk⟩ := keys_mem hd
      have hr' := hS r _ (get_app hr)
      subst haf
      refine ⟨_, rfl, ?_, fun _ => ?_⟩
      · cases after with
        | none =>
          by_cases h : k ≥ low
          · simp [evC1, evE, evAnd, evOr, ev1, ev2, evVar, evC, IEs.isNil, cmpD, geD, ltD, truD, fromD, h, idx_tup, atI, ixN, optD]
          · have h' : k < low := Decidable.not_not.mp h
            simp [evC1, evE, evAnd, evOr, ev1, ev2, evVar, evC, IEs.isNil, cmpD, geD, ltD, truD, fromD, h, h', idx_tup, atI, ixN, optD]
        | some z =>
          by_cases h : k ≥ low
          · by_cases h2 : k < z
            · simp [evC1, evE, evAnd, evOr, ev1, ev2, evVar, evC, IEs.isNil, cmpD, geD, ltD, truD, fromD, h, h2, idx_tup, atI, ixN, optD]
            · simp [evC1, evE, evAnd, evOr, ev1, ev2, evVar, evC, IEs.isNil, cmpD, geD, ltD, truD, fromD, h, h2, idx_tup, atI, ixN, optD]
          · have h' : k < low := Decidable.not_not.mp h
            simp [evC1, evE, evAnd, evOr, ev1, ev2, evVar, evC, IEs.isNil, cmpD, geD, ltD, truD, fromD, h, h', idx_tup, atI, ixN, optD]
      · simp [evE, evEs, ev1, ev2, evVar, idxD, hr', isKey, dget_kv, hk, optD, z2, pairD])
  have hlen2 : (S ++ [O.lst (keysOf m), O.lst (dueD m low after)])[S.length + 1]? = some (.lst (dueD m low after)) := by
    rw [List.getElem?_append_right (by omega)]
    simp
  have hd : ((keysOf m).filter (fromD low after)).map (pairD m) = dueD m low after := rfl
  rw [hd] at hc
  have hle : (dueD m low after).length ≤ sizeLine := by
    unfold dueD
    rw [List.length_map]
    have := List.length_filter_le (fromD low after) (keysOf m)
    rw [keys_len] at this
    omega
  have hsp : b11r = .cons (.asg (.name 4) (.comp (.tup (.cons (.var 5) (.cons (.idx (.var 2) (.var 5)) .nil))) (.name 5) (.exp (.bi .sorted (.cons (.var 2) .nil))) (.some (.and_ (.cons (.cmp .ge (.var 5) (.idx (.var 0) (.cst (.int 1)))) (.cons (.or_ (.cons (.isn (.var 3)) (.cons (.cmp .lt (.var 5) (.var 3)) .nil))) .nil)))) [5])) (restOf b11 5) := rfl
  rw [hsp, evSs_cons]
  unfold evS
  rw [hc]
  by_cases h1 : ((dueD m low after).length : Int) ≤ lim
  · simp [restOf, b11, evSs, evS, evE, evEs, evAnd, ev1, ev2, evVar, evC, IEs.isNil, cmpD, leD, truD, biD, tgD, optS, itemsD, hlen2, h1, hle, Bs.eqD_ok hp (due_ok m low after), idx_tup, atI, ixN, optD]
  · simp [restOf, b11, evSs, evS, evE, evEs, evAnd, ev1, ev2, evVar, evC, IEs.isNil, cmpD, leD, truD, biD, tgD, optS, itemsD, hlen2, h1, idx_tup, atI, ixN, optD]
def lfS (i : Nat) : IS := nth b11 i
theorem b11_eq : b11 = .cons (lfS 0) (.cons (lfS 1) (.cons (lfS 2) (.cons (lfS 3) b11r))) := rfl
theorem law_fits_ok {S : Store} {r : Nat} {m : Kv} {op : Op} {a : Bs.D} (hla : op.isPage = false → G.call 8 [.ref r, op.d, .int 1] S = .ok (ansOf m op) S) (hr : S[r]? = some (.dic false (kvD m))) (hm : m.length < 64) (ha : okP 60 a = true) :
    ∃ T, runBody G 6 3 b11 [op.d, a, .ref r] S = .ok (.bl (fitsA m op a)) (S ++ T) := by
  cases op with
  | page low lim =>
    show ∃ T, runBody G 6 3 b11 [.tup [.str [112, 97, 103, 101], .str low, .int lim], a, .ref r] S = .ok (.bl (fitsB m low lim a)) (S ++ T)
    cases a with
    | bl b => cases ha
    | ref n => cases ha
    | scr ns => cases ha
    | non => exact ⟨[], by simp [runBody, b11, evSs, evS, evE, evEs, evOr, ev2, ev1, evVar, evC, startE, tgD, optS, isiD, truD, IEs.isNil, fitsB, idx_tup, atI, ixN, optD, cmpD, strN]⟩
    | int i => exact ⟨[], by simp [runBody, b11, evSs, evS, evE, evEs, evOr, ev2, ev1, evVar, evC, startE, tgD, optS, isiD, truD, IEs.isNil, fitsB, idx_tup, atI, ixN, optD, cmpD, strN]⟩
    | str x => exact ⟨[], by simp [runBody, b11, evSs, evS, evE, evEs, evOr, ev2, ev1, evVar, evC, startE, tgD, optS, isiD, truD, IEs.isNil, fitsB, idx_tup, atI, ixN, optD, cmpD, strN]⟩
    | tup xs =>
      have hx : okPs 59 xs = true := ha
      by_cases hl : xs.length = 3
      · match xs, hl with
        | [t, pairs, af], _ =>
          have ht := okP_mono 59 60 t (by decide) (pf_rest 59 _ hx t (by simp))
          have hp := okP_mono 59 60 pairs (by decide) (pf_rest 59 _ hx pairs (by simp))
          have hf := okP_mono 59 60 af (by decide) (pf_rest 59 _ hx af (by simp))
          have nt : ∀ S, neD t (.str [112, 97, 103, 101]) S = .ok (.bl (!decide (t = .str [112, 97, 103, 101]))) S := fun S => Bs.neD_ok ht rfl
          by_cases e : t = .str [112, 97, 103, 101]
          · subst e
            rw [b11_eq]
            cases af with
            | bl b => cases hf
            | ref n => cases hf
            | scr ns => cases hf
            | int i => exact ⟨[], by simp [lfS, nth, b11, runBody, evSs, evS, evE, evEs, evOr, evAnd, ev2, ev1, evVar, evC, startE, tgD, optS, isiD, truD, IEs.isNil, fitsB, biD, itemsD, intN, cmpD, idx_tup, optD, atI, ixN, strN]⟩
            | tup i => exact ⟨[], by simp [lfS, nth, b11, runBody, evSs, evS, evE, evEs, evOr, evAnd, ev2, ev1, evVar, evC, startE, tgD, optS, isiD, truD, IEs.isNil, fitsB, biD, itemsD, intN, cmpD, idx_tup, optD, atI, ixN, strN]⟩
            | non =>
              have key := lf_end (G := G) (t := .str [112, 97, 103, 101]) (low := low) (lim := lim) (af := .non) (after := none) hr hm hp rfl
              exact ⟨_, by simp [lfS, nth, b11, runBody, evSs, evS, evE, evEs, evOr, evAnd, ev2, ev1, evVar, evC, startE, tgD, optS, isiD, truD, IEs.isNil, fitsB, biD, itemsD, intN, cmpD, idx_tup, optD, atI, ixN, strN, key]; rfl⟩
            | str z =>
              by_cases hz : z ≤ low
              · exact ⟨[], by simp [lfS, nth, b11, runBody, evSs, evS, evE, evEs, evOr, evAnd, ev2, ev1, evVar, evC, startE, tgD, optS, isiD, truD, IEs.isNil, fitsB, biD, itemsD, intN, cmpD, leD, idx_tup, optD, atI, ixN, strN, hz]⟩
              · have key := lf_end (G := G) (t := .str [112, 97, 103, 101]) (low := low) (lim := lim) (af := .str z) (after := some z) hr hm hp rfl
                exact ⟨_, by simp [lfS, nth, b11, runBody, evSs, evS, evE, evEs, evOr, evAnd, ev2, ev1, evVar, evC, startE, tgD, optS, isiD, truD, IEs.isNil, fitsB, biD, itemsD, intN, cmpD, leD, idx_tup, optD, atI, ixN, strN, hz, key]; rfl⟩
          · refine ⟨[], ?_⟩
            simp [runBody, b11, evSs, evS, evE, evEs, evOr, ev2, ev1, evVar, evC, startE, tgD, optS, isiD, truD, IEs.isNil, fitsB, biD, itemsD, intN, cmpD, idx_tup, optD, atI, ixN, strN, nt, e]
      · refine ⟨[], ?_⟩
        have hl' : ¬ ((xs.length : Int) = 3) := by omega
        have hfb : fitsB m low lim (.tup xs) = false := by
          unfold fitsB
          split
          · rename_i z; cases z; exact absurd rfl hl
          · rfl
        simp [runBody, b11, evSs, evS, evE, evEs, evOr, ev2, ev1, evVar, evC, startE, tgD, optS, isiD, truD, IEs.isNil, biD, itemsD, intN, cmpD, idx_tup, optD, atI, ixN, strN, hl', hfb]
  | put k v =>
    have hE : ∀ S, eqD a (ansOf m (.put k v)) S = .ok (.bl (decide (a = ansOf m (.put k v)))) S := fun S => Bs.eqD_ok ha (okP_mono 5 60 _ (by decide) (okans m _))
    have h1 := hla rfl
    have hff : fitsA m (.put k v) a = decide (a = ansOf m (.put k v)) := rfl
    rw [hff]
    generalize ansOf m (.put k v) = an at hE h1 ⊢
    unfold Op.d at h1 ⊢
    exact ⟨[], by simp [runBody, b11, evSs, evS, evE, evEs, ev2, ev1, evVar, evC, startE, truD, idx_tup, optD, atI, ixN, cmpD, strN, h1, hE]⟩
  | get k =>
    have hE : ∀ S, eqD a (ansOf m (.get k)) S = .ok (.bl (decide (a = ansOf m (.get k)))) S := fun S => Bs.eqD_ok ha (okP_mono 5 60 _ (by decide) (okans m _))
    have h1 := hla rfl
    have hff : fitsA m (.get k) a = decide (a = ansOf m (.get k)) := rfl
    rw [hff]
    generalize ansOf m (.get k) = an at hE h1 ⊢
    unfold Op.d at h1 ⊢
    exact ⟨[], by simp [runBody, b11, evSs, evS, evE, evEs, ev2, ev1, evVar, evC, startE, truD, idx_tup, optD, atI, ixN, cmpD, strN, h1, hE]⟩
  | drop k =>
    have hE : ∀ S, eqD a (ansOf m (.drop k)) S = .ok (.bl (decide (a = ansOf m (.drop k)))) S := fun S => Bs.eqD_ok ha (okP_mono 5 60 _ (by decide) (okans m _))
    have h1 := hla rfl
    have hff : fitsA m (.drop k) a = decide (a = ansOf m (.drop k)) := rfl
    rw [hff]
    generalize ansOf m (.drop k) = an at hE h1 ⊢
    unfold Op.d at h1 ⊢
    exact ⟨[], by simp [runBody, b11, evSs, evS, evE, evEs, ev2, ev1, evVar, evC, startE, truD, idx_tup, optD, atI, ixN, cmpD, strN, h1, hE]⟩
  | swap k x y =>
    have hE : ∀ S, eqD a (ansOf m (.swap k x y)) S = .ok (.bl (decide (a = ansOf m (.swap k x y)))) S := fun S => Bs.eqD_ok ha (okP_mono 5 60 _ (by decide) (okans m _))
    have h1 := hla rfl
    have hff : fitsA m (.swap k x y) a = decide (a = ansOf m (.swap k x y)) := rfl
    rw [hff]
    generalize ansOf m (.swap k x y) = an at hE h1 ⊢
    unfold Op.d at h1 ⊢
    exact ⟨[], by simp [runBody, b11, evSs, evS, evE, evEs, ev2, ev1, evVar, evC, startE, truD, idx_tup, optD, atI, ixN, cmpD, strN, h1, hE]⟩
end
end K70

set_option Elab.async false
set_option linter.all false
set_option maxRecDepth 100000
set_option maxHeartbeats 2000000
/-! K70n: _law_answers. -/
namespace K70
open PySem PySem.Spec L2 Bs
theorem fdid_get (c n : Int) : ∀ (P : List Ev) (j i : Nat) (op : Op), fdid c n P j = some (i, op) → ∃ t s, P[i - j]? = some (Ev.did t s c n op)
  | [], j, i, op, h => by cases h
  | .did t s c' n' op' :: r, j, i, op, h => by
    have h : (if c' = c ∧ n' = n then some (j, op') else fdid c n r (j + 1)) = some (i, op) := h
    by_cases e : c' = c ∧ n' = n
    · rw [if_pos e] at h
      cases h
      obtain ⟨rfl, rfl⟩ := e
      exact ⟨t, s, by simp⟩
    · rw [if_neg e] at h
      obtain ⟨t', s', q⟩ := fdid_get c n r (j + 1) i op h
      have := (fdid_lt c n r (j + 1) i op h).1
      exact ⟨t', s', by rw [show i - j = (i - (j + 1)) + 1 by omega]; simpa using q⟩
  | .call t c' n' op' :: r, j, i, op, h => by
    obtain ⟨t', s', q⟩ := fdid_get c n r (j + 1) i op h
    have := (fdid_lt c n r (j + 1) i op h).1
    exact ⟨t', s', by rw [show i - j = (i - (j + 1)) + 1 by omega]; simpa using q⟩
  | .gone t :: r, j, i, op, h => by
    obtain ⟨t', s', q⟩ := fdid_get c n r (j + 1) i op h
    have := (fdid_lt c n r (j + 1) i op h).1
    exact ⟨t', s', by rw [show i - j = (i - (j + 1)) + 1 by omega]; simpa using q⟩
  | .acc t c' n' a :: r, j, i, op, h => by
    obtain ⟨t', s', q⟩ := fdid_get c n r (j + 1) i op h
    have := (fdid_lt c n r (j + 1) i op h).1
    exact ⟨t', s', by rw [show i - j = (i - (j + 1)) + 1 by omega]; simpa using q⟩
theorem firstDid_get {P : List Ev} {c n : Int} {j : Nat} {op : Op} (h : firstDid P c n = some (j, op)) : ∃ t s, P[j]? = some (Ev.did t s c n op) := by
  obtain ⟨t, s, q⟩ := fdid_get c n P 0 j op h
  exact ⟨t, s, by simpa using q⟩
def lkBody : ISs := bodyOf (nth b13 0)
def laBody : ISs := bodyOf (nth lkBody 2)
theorem b13_eq : b13 = .cons (.for_ (.name 2) (.range1 (.bi .len (.cons (.var 0) .nil))) lkBody) (.cons (.ret (.cst .non)) .nil) := rfl
def fvD : Option (Nat × Op) → Bs.D
  | none => .non
  | some (j, _) => .int (j : Int)
theorem idx_ev {S : Store} {e0 i : Nat} {L : List Ev} {e : Ev} (he : S[e0]? = some (.lst (L.map Ev.d))) (hi : L[i]? = some e) : idxD (.ref e0) (.int (i : Int)) S = .ok e.d S := by
  unfold idxD
  dsimp only
  rw [he]
  dsimp only
  rw [atI_nat, List.getElem?_map, hi]
  rfl
section
variable {G : Lang}
theorem la_step {S : Store} {e0 i k : Nat} {L : List Ev} {e : Ev} {t c n : Int} {a : Bs.D} {x1 : Option Bs.D} {o : Option (Nat × Op)} (he : S[e0]? = some (.lst (L.map Ev.d))) (hi : L[i]? = some e) (hk : L[k]? = some (.acc t c n a)) :
    evSs G laBody [some (.ref e0), x1, some (.int (k : Int)), some (fvD o), some (.int (i : Int))] S = .nx [some (.ref e0), x1, some (.int (k : Int)), some (match o with
      | some _ => fvD o
      | none => if didB c n e = true then .int (i : Int) else .non), some (.int (i : Int))] S := by
  have h1 := idx_ev he hi
  have h2 := idx_ev he hk
  cases o with
  | some x =>
    obtain ⟨j, op⟩ := x
    simp [laBody, lkBody, bodyOf, nth, b13, evSs, evS, evE, evEs, evAnd, IEs.isNil, ev2, ev1, evVar, evC, truD, fvD]
  | none =>
    unfold Ev.d at h1 h2
    cases e with
    | call t' c' n' op => simp [laBody, lkBody, bodyOf, nth, b13, evSs, evS, evE, evEs, evAnd, IEs.isNil, ev2, ev1, evVar, evC, truD, fvD, h1, idx_tup, atI, ixN, optD, cmpD, strE, didB]
    | gone t' => simp [laBody, lkBody, bodyOf, nth, b13, evSs, evS, evE, evEs, evAnd, IEs.isNil, ev2, ev1, evVar, evC, truD, fvD, h1, idx_tup, atI, ixN, optD, cmpD, strE, didB]
    | acc t' c' n' a' => simp [laBody, lkBody, bodyOf, nth, b13, evSs, evS, evE, evEs, evAnd, IEs.isNil, ev2, ev1, evVar, evC, truD, fvD, h1, idx_tup, atI, ixN, optD, cmpD, strE, didB]
    | did t' s c' n' op =>
      by_cases e1 : c' = c
      · by_cases e2 : n' = n
        · simp [laBody, lkBody, bodyOf, nth, b13, evSs, evS, evE, evEs, evAnd, IEs.isNil, ev2, ev1, evVar, evC, truD, fvD, h1, h2, idx_tup, atI, ixN, optD, cmpD, strE, intE, didB, e1, e2, tgD, optS]
        · simp [laBody, lkBody, bodyOf, nth, b13, evSs, evS, evE, evEs, evAnd, IEs.isNil, ev2, ev1, evVar, evC, truD, fvD, h1, h2, idx_tup, atI, ixN, optD, cmpD, strE, intE, didB, e1, e2]
      · simp [laBody, lkBody, bodyOf, nth, b13, evSs, evS, evE, evEs, evAnd, IEs.isNil, ev2, ev1, evVar, evC, truD, fvD, h1, h2, idx_tup, atI, ixN, optD, cmpD, strE, intE, didB, e1]
theorem la_loop {S : Store} {e0 k : Nat} {L : List Ev} {t c n : Int} {a : Bs.D} {x1 x4 : Option Bs.D} (he : S[e0]? = some (.lst (L.map Ev.d))) (hk : L[k]? = some (.acc t c n a)) :
    ∃ x4', forN (.items (rangeD 0 (k : Int))) (.name 4) (evSs G laBody) (rangeD 0 (k : Int)).length 0 [some (.ref e0), x1, some (.int (k : Int)), some .non, x4] S = .nx [some (.ref e0), x1, some (.int (k : Int)), some (fvD (firstDid (L.take k) c n)), x4'] S := by
  have hlt := (List.getElem?_eq_some_iff.mp hk).1
  refine for_rule (xs := rangeD 0 (k : Int)) (Z := fun r => ∃ x4', r = .nx [some (.ref e0), x1, some (.int (k : Int)), some (fvD (firstDid (L.take k) c n)), x4'] S)
    (fun i rho S' => S' = S ∧ i ≤ k ∧ ∃ x4, rho = [some (.ref e0), x1, some (.int (k : Int)), some (fvD (firstDid (L.take i) c n)), x4]) (fun i rho S' _ => rfl) ?_ ?_ _ _ _ _ ⟨rfl, Nat.zero_le _, x4, rfl⟩ (Nat.zero_le _) (by omega)
  · rintro i d rho S' hd ⟨rfl, hik, x4, rfl⟩
    rw [range_get] at hd
    by_cases hi : i < k
    · rw [if_pos hi] at hd
      cases hd
      obtain ⟨ev, e1, e2, e3⟩ := get_ev (L := L) (i := i) (by omega)
      refine ⟨_, rfl, ?_⟩
      show stepZ _ _ (evSs G laBody [some (.ref e0), x1, some (.int (k : Int)), some (fvD (firstDid (L.take i) c n)), some (.int (i : Int))] S')
      rw [la_step he e1 hk]
      refine ⟨rfl, hi, some (.int (i : Int)), ?_⟩
      rw [e2, firstDid_app]
      cases firstDid (L.take i) c n with
      | some x => rfl
      | none =>
        cases ev with
        | did t' s c' n' op =>
          have hl : (L.take i).length = i := by rw [List.length_take]; omega
          by_cases e : c' = c ∧ n' = n
          · simp [didB, e, fvD]; omega
          · simp [didB, e, fvD]
        | _ => rfl
    · rw [if_neg hi] at hd; cases hd
  · rintro rho S' ⟨rfl, hik, x4, rfl⟩
    refine ⟨x4, ?_⟩
    rw [range_len]
theorem lk_step {S : Store} {e0 b0 i : Nat} {L : List Ev} {bs : List Nat} {e : Ev} {x3 x4 : Option Bs.D} (he : S[e0]? = some (.lst (L.map Ev.d))) (hb : S[b0]? = some (.lst (bs.map .ref))) (hi : L[i]? = some e) (hL : L.length ≤ 60)
    (hbs : ∀ j, j < L.length → ∃ b, bs[j]? = some b ∧ S[b]? = some (.dic false (kvD (mAt (L.take j))))) (hgood : e.good = true)
    (lf : ∀ (S : Store) (r : Nat) (m : Kv) (op : Op) (a : Bs.D), S[r]? = some (.dic false (kvD m)) → m.length < 64 → okP 60 a = true → ∃ T, G.call 11 [op.d, a, .ref r] S = .ok (.bl (fitsA m op a)) (S ++ T)) :
    ∃ y3 y4 T, evSs G lkBody [some (.ref e0), some (.ref b0), some (.int (i : Int)), x3, x4] S = match faultA (L.take i) e with
      | some d => .rt d (S ++ T)
      | none => if (match e with
        | .acc _ _ _ _ => true
        | _ => false) = true then .nx [some (.ref e0), some (.ref b0), some (.int (i : Int)), y3, y4] (S ++ T) else .ct [some (.ref e0), some (.ref b0), some (.int (i : Int)), y3, y4] (S ++ T) := by
  have hlt := (List.getElem?_eq_some_iff.mp hi).1
  have z3 : (3 : Nat) ≤ sizeLine := by decide
  have h0 := idx_ev he hi
  have hsp : lkBody = .cons (nth lkBody 0) (.cons (.asg (.name 3) (.cst .non)) (.cons (.for_ (.name 4) (.range1 (.var 2)) laBody) (restOf lkBody 3))) := rfl
  cases e with
  | call t c n op =>
    refine ⟨x3, x4, [], ?_⟩
    unfold Ev.d at h0
    simp [lkBody, bodyOf, nth, b13, evSs, evS, evE, evEs, ev2, ev1, evVar, evC, h0, cmpD, strN, truD, faultA, idx_tup, atI, ixN, optD]
  | did t s c n op =>
    refine ⟨x3, x4, [], ?_⟩
    unfold Ev.d at h0
    simp [lkBody, bodyOf, nth, b13, evSs, evS, evE, evEs, ev2, ev1, evVar, evC, h0, cmpD, strN, truD, faultA, idx_tup, atI, ixN, optD]
  | gone t =>
    refine ⟨x3, x4, [], ?_⟩
    unfold Ev.d at h0
    simp [lkBody, bodyOf, nth, b13, evSs, evS, evE, evEs, ev2, ev1, evVar, evC, h0, cmpD, strN, truD, faultA, idx_tup, atI, ixN, optD]
  | acc t c n a =>
    have ha : okP 60 a = true := okP_mono 20 60 a (by decide) hgood
    obtain ⟨x4', hl⟩ := la_loop (G := G) (x1 := some (.ref b0)) (x4 := x4) he hi
    have hbd : -Bs.bound ≤ (i : Int) ∧ (i : Int) ≤ Bs.bound := by unfold Bs.bound; omega
    rw [hsp]
    cases hf : firstDid (L.take i) c n with
    | none =>
      rw [hf] at hl
      refine ⟨some .non, x4', [], ?_⟩
      unfold Ev.d at h0
      unfold fvD at hl
      dsimp only at hl
      simp [lkBody, bodyOf, nth, restOf, b13, evSs_cons, evSs_nil, evS, evE, evEs, evT, ev2, ev1, evVar, evC, h0, cmpD, strN, truD, faultA, idx_tup, atI, ixN, optD, tgD, optS, hbd.1, hbd.2, lenI, hl, shutS, openI, hf, missing, z3]
    | some x =>
      obtain ⟨j, op⟩ := x
      rw [hf] at hl
      obtain ⟨t', s', hj⟩ := firstDid_get hf
      have hjlt : j < i := by have := firstDid_lt hf; rw [List.length_take] at this; omega
      have hj' : L[j]? = some (Ev.did t' s' c n op) := by rw [List.getElem?_take_of_lt hjlt] at hj; exact hj
      obtain ⟨b, hb1, hb2⟩ := hbs j (by omega)
      have hmj : (mAt (L.take j)).length < 64 := by have := mAt_len (L.take j); rw [List.length_take] at this; omega
      obtain ⟨T, hc⟩ := lf S b (mAt (L.take j)) op a hb2 hmj ha
      have hib : idxD (.ref b0) (.int (j : Int)) S = .ok (.ref b) S := by
        unfold idxD
        dsimp only
        rw [hb]
        dsimp only
        rw [atI_nat, List.getElem?_map, hb1]
        rfl
      have hej := idx_ev he hj'
      have h0' := idx_ev (get_app (T := T) he) hi
      have htt : (L.take i).take j = L.take j := by rw [List.take_take, Nat.min_eq_left (by omega)]
      have hfa : faultA (L.take i) (.acc t c n a) = if fitsA (mAt (L.take j)) op a = true then none else some (answer c n) := by
        unfold faultA
        dsimp only
        rw [hf]
        dsimp only
        rw [htt]
      rw [hfa]
      refine ⟨some (.int (j : Int)), x4', T, ?_⟩
      unfold Ev.d at h0 hej h0'
      unfold fvD at hl
      dsimp only at hl
      by_cases e : fitsA (mAt (L.take j)) op a = true
      · rw [e] at hc
        simp [lkBody, bodyOf, nth, restOf, b13, evSs_cons, evSs_nil, evS, evE, evEs, evT, ev2, ev1, evVar, evC, h0, hej, hib, hc, cmpD, strN, truD, idx_tup, atI, ixN, optD, tgD, optS, hbd.1, hbd.2, lenI, hl, shutS, openI, e]
      · have e' : fitsA (mAt (L.take j)) op a = false := by simpa using e
        rw [e'] at hc
        simp [lkBody, bodyOf, nth, restOf, b13, evSs_cons, evSs_nil, evS, evE, evEs, evT, ev2, ev1, evVar, evC, h0, hej, hib, hc, cmpD, strN, truD, idx_tup, atI, ixN, optD, tgD, optS, hbd.1, hbd.2, lenI, hl, shutS, openI, e', answer, z3, h0']
theorem law_answers_ok {S : Store} {e0 b0 : Nat} {L : List Ev} {bs : List Nat} (he : S[e0]? = some (.lst (L.map Ev.d))) (hb : S[b0]? = some (.lst (bs.map .ref))) (hL : L.length ≤ 60)
    (hbs : ∀ j, j < L.length → ∃ b, bs[j]? = some b ∧ S[b]? = some (.dic false (kvD (mAt (L.take j))))) (hgood : ∀ e ∈ L, e.good = true)
    (lf : ∀ (S : Store) (r : Nat) (m : Kv) (op : Op) (a : Bs.D), S[r]? = some (.dic false (kvD m)) → m.length < 64 → okP 60 a = true → ∃ T, G.call 11 [op.d, a, .ref r] S = .ok (.bl (fitsA m op a)) (S ++ T)) :
    ∃ T, runBody G 5 2 b13 [.ref e0, .ref b0] S = .ok (ansF [] L) (S ++ T) := by
  have hbd : -Bs.bound ≤ (L.length : Int) ∧ (L.length : Int) ≤ Bs.bound := by unfold Bs.bound; omega
  have loop : EndZ S (ansF [] L) (forN (.items (rangeD 0 (L.length : Int))) (.name 2) (evSs G lkBody) (rangeD 0 (L.length : Int)).length 0 [some (.ref e0), some (.ref b0), none, none, none] S) := by
    refine for_rule (xs := rangeD 0 (L.length : Int)) (fun i rho S' => ∃ T x2 x3 x4, S' = S ++ T ∧ rho = [some (.ref e0), some (.ref b0), x2, x3, x4] ∧ ansF (L.take i) (L.drop i) = ansF [] L) (fun i rho S' _ => rfl) ?_ ?_ _ _ _ _ ⟨[], none, none, none, by simp, rfl, rfl⟩ (Nat.zero_le _) (by omega)
    · rintro i d rho S' hd ⟨T, x2, x3, x4, rfl, rfl, h5⟩
      rw [range_get] at hd
      by_cases hi : i < L.length
      · rw [if_pos hi] at hd
        cases hd
        obtain ⟨ev, e1, e2, e3⟩ := get_ev hi
        refine ⟨_, rfl, ?_⟩
        obtain ⟨y3, y4, T2, q⟩ := lk_step (G := G) (x3 := x3) (x4 := x4) (get_app (T := T) he) (get_app (T := T) hb) e1 hL (fun j hj => let ⟨b, h1, h2⟩ := hbs j hj; ⟨b, h1, get_app h2⟩) (hgood ev (List.mem_of_getElem? e1)) lf
        show stepZ _ _ (evSs G lkBody [some (.ref e0), some (.ref b0), some (.int (i : Int)), x3, x4] (S ++ T))
        rw [q]
        rw [e3] at h5
        have h5' : ansF [] L = match faultA (L.take i) ev with
          | some d => d
          | none => ansF (L.take i ++ [ev]) (L.drop (i + 1)) := h5.symm
        cases hf : faultA (L.take i) ev with
        | some d =>
          rw [hf] at h5'
          exact .inr ⟨T ++ T2, by rw [h5', List.append_assoc]⟩
        | none =>
          rw [hf] at h5'
          dsimp only
          split
          · exact ⟨T ++ T2, _, _, _, by rw [List.append_assoc], rfl, by rw [e2]; exact h5'.symm⟩
          · exact ⟨T ++ T2, _, _, _, by rw [List.append_assoc], rfl, by rw [e2]; exact h5'.symm⟩
      · rw [if_neg hi] at hd; cases hd
    · rintro rho S' ⟨T, x2, x3, x4, rfl, rfl, h5⟩
      rw [range_len, List.drop_length] at h5
      exact .inl ⟨_, T, rfl, h5.symm⟩
  obtain ⟨T, q⟩ := end_runI (G := G) (xs := rangeD 0 (L.length : Int)) loop
  refine ⟨T, ?_⟩
  rw [← q, b13_eq, runBody_eq (k := 2) (args := [.ref e0, .ref b0]) rfl]
  simp [evSs_cons, evS, evE, evEs, ev1, ev2, evVar, startE, evT, biD, he, hbd.1, hbd.2, lenI]
end
end K70

set_option Elab.async false
set_option linter.all false
set_option maxRecDepth 100000
set_option maxHeartbeats 2000000
/-! K70o: _law_event. -/
namespace K70
open PySem PySem.Spec L2 Bs
/-- a client: its number, its operation, its step -/
structure Cl where
  num : Int
  op : Op
  step : Int
def Cl.d (x : Cl) : Bs.D := .tup [.int x.num, x.op.d, .int x.step]
def stD (f : Int → Cl) : List (Bs.D × Bs.D) := [(.int (-1), (f (-1)).d), (.int (-2), (f (-2)).d), (.int (-3), (f (-3)).d)]
def updc (f : Int → Cl) (c : Int) (x : Cl) : Int → Cl := fun y => if y = c then x else f y
theorem st_get (f : Int → Cl) {c : Int} (h : c = -1 ∨ c = -2 ∨ c = -3) : dget (stD f) (.int c) = some (f c).d := by
  rcases h with rfl | rfl | rfl <;> simp [dget, stD]
theorem st_put (f : Int → Cl) {c : Int} (x : Cl) (h : c = -1 ∨ c = -2 ∨ c = -3) : dput (stD f) (.int c) x.d = stD (updc f c x) := by
  rcases h with rfl | rfl | rfl <;> simp [dput, stD, updc]
/-- an event is made -/
structure Made (f : Int → Cl) (ev : Ev) (f' : Int → Cl) : Prop where
  ops : ∀ x, (f' x).op.lim = true
  good : ev.good = true
  num : (∃ t c op, ev = Ev.call t c ((f c).num + 1) op ∧ (f' c).num = (f c).num + 1 ∧ ∀ x, x ≠ c → (f' x).num = (f x).num) ∨ ((∀ x, (f' x).num = (f x).num) ∧ ∀ t c n op, ev ≠ Ev.call t c n op)
section
variable {G : Lang}
theorem upd_ops {f : Int → Cl} (h : ∀ x, (f x).op.lim = true) {c : Int} {x : Cl} (hx : x.op.lim = true) : ∀ y, (updc f c x y).op.lim = true := fun y => by
  unfold updc
  split
  · exact hx
  · exact h y
theorem law_event_ok (lo : ∀ (c : Int) (S : Store), ∃ (op : Op) (T : Store), op.lim = true ∧ G.call 7 [.int c] S = .ok op.d (S ++ T)) {S : Store} {st : Nat} {f : Int → Cl} {c t : Int} (hst : S[st]? = some (.dic false (stD f))) (hf : ∀ x, (f x).op.lim = true) :
    ∃ ev f' T, Made f ev f' ∧ runBody G 8 3 b10 [.ref st, .int c, .int t] S = .ok ev.d (S.set st (.dic false (stD f')) ++ T) := by
  have hcl : -1 - c % 3 = -1 ∨ -1 - c % 3 = -2 ∨ -1 - c % 3 = -3 := by omega
  have hget := st_get f hcl
  have hput := fun x => st_put f x hcl
  have hs := set_same S st _ hst
  have hlt := lt_of_get hst
  have z1 : (1 : Nat) ≤ sizeLine := by decide
  have z3 : (3 : Nat) ≤ sizeLine := by decide
  have z4 : (4 : Nat) ≤ sizeLine := by decide
  have z5 : (5 : Nat) ≤ sizeLine := by decide
  have z6 : (6 : Nat) ≤ sizeLine := by decide
  have zl : (stD f).length < sizeLine := by
    have : (10 : Nat) < sizeLine := by decide
    show 3 < sizeLine
    omega
  have l3 : (3 : Int) < Bs.lim := by decide
  have l36 : (36 : Int) < Bs.lim := by decide
  have l2 : (2 : Int) < Bs.lim := by decide
  generalize hclg : -1 - c % 3 = cl at hget hput hcl
  have same : ∀ x, (f x).num = (f x).num := fun _ => rfl
  by_cases k0 : c / 3 % 12 = 0
  · obtain ⟨op, T, hop, hc⟩ := lo (c / 36 / 2) S
    refine ⟨.did t 0 cl (if (f cl).num - c / 36 % 2 > 1 then (f cl).num - c / 36 % 2 else 1) op, f, T, ⟨hf, hop, .inr ⟨same, fun _ _ _ _ z => by cases z⟩⟩, ?_⟩
    rw [hs]
    unfold Cl.d at hget
    simp [runBody, b10, evSs, evS, evE, evEs, ev2, ev1, evVar, evC, startE, negD, biD, binD, modD, subD, fdivD, l3, l36, l2, hclg, tgD, optS, idxD, hst, isKey, hget, optD, cmpD, intE, truD, k0, hc, z6, z4, Ev.d]
  by_cases k1 : c / 3 % 12 = 1
  · refine ⟨.gone t, f, [], ⟨hf, rfl, .inr ⟨same, fun _ _ _ _ z => by cases z⟩⟩, ?_⟩
    rw [hs]
    unfold Cl.d at hget
    simp [runBody, b10, evSs, evS, evE, evEs, ev2, ev1, evVar, evC, startE, negD, biD, binD, modD, subD, fdivD, l3, l36, l2, hclg, tgD, optS, idxD, hst, isKey, hget, optD, cmpD, intE, truD, k0, k1, z6, z4, Ev.d]
  by_cases k2 : c / 3 % 12 = 2
  · have hv : ∃ a, okP 20 a = true ∧ atI [Bs.D.tup [.str [110, 111, 110, 101]], .tup [.str [100, 111, 110, 101]], .tup [.str [118, 97, 108, 117, 101], .str [120]], .tup [.str [112, 97, 103, 101], .tup [], .non]] (c / 36 % 4) = some a := by
      have h : c / 36 % 4 = 0 ∨ c / 36 % 4 = 1 ∨ c / 36 % 4 = 2 ∨ c / 36 % 4 = 3 := by omega
      rcases h with h | h | h | h <;> rw [h] <;> exact ⟨_, rfl, rfl⟩
    obtain ⟨a, ha, hat⟩ := hv
    refine ⟨.acc t cl (f cl).num a, f, [.lst [Bs.D.tup [.str [110, 111, 110, 101]], .tup [.str [100, 111, 110, 101]], .tup [.str [118, 97, 108, 117, 101], .str [120]], .tup [.str [112, 97, 103, 101], .tup [], .non]]], ⟨hf, ha, .inr ⟨same, fun _ _ _ _ z => by cases z⟩⟩, ?_⟩
    rw [hs]
    unfold Cl.d at hget
    have z2 : (2 : Nat) ≤ sizeLine := by decide
    simp [runBody, b10, evSs, evS, evE, evEs, ev2, ev1, evVar, evC, startE, negD, biD, binD, modD, subD, fdivD, l3, l36, l2, hclg, tgD, optS, idxD, hst, isKey, hget, optD, cmpD, intE, truD, k0, k1, k2, z6, z4, z5, z1, z2, z3, Ev.d, Bs.alloc, hat]
  by_cases s0 : (f cl).step = 0
  · obtain ⟨op, T, hop, hc⟩ := lo (c / 36) S
    have h1 : (S ++ T)[st]? = some (.dic false (stD f)) := get_app hst
    have hp := hput ⟨(f cl).num + 1, op, 1⟩
    have hg2 := st_get (updc f cl ⟨(f cl).num + 1, op, 1⟩) hcl
    have e1 : updc f cl ⟨(f cl).num + 1, op, 1⟩ cl = ⟨(f cl).num + 1, op, 1⟩ := by unfold updc; rw [if_pos rfl]
    rw [e1] at hg2
    have hset : (S ++ T).set st (.dic false (stD (updc f cl ⟨(f cl).num + 1, op, 1⟩))) = S.set st (.dic false (stD (updc f cl ⟨(f cl).num + 1, op, 1⟩))) ++ T := List.set_append_left _ _ hlt
    have h2 : (S.set st (.dic false (stD (updc f cl ⟨(f cl).num + 1, op, 1⟩))) ++ T)[st]? = some (.dic false (stD (updc f cl ⟨(f cl).num + 1, op, 1⟩))) := get_app (List.getElem?_set_self hlt)
    refine ⟨.call t cl ((f cl).num + 1) op, updc f cl ⟨(f cl).num + 1, op, 1⟩, T, ⟨upd_ops hf hop, rfl, .inl ⟨t, cl, op, rfl, by rw [e1], fun x hx => by unfold updc; rw [if_neg hx]⟩⟩, ?_⟩
    unfold Cl.d at hget hp hg2
    dsimp only at hp hg2
    simp [runBody, b10, evSs, evS, evE, evEs, ev2, ev1, evVar, evC, startE, negD, biD, binD, modD, subD, addD, fdivD, l3, l36, l2, hclg, tgD, optS, idxD, hst, isKey, hget, optD, cmpD, intE, truD, k0, k1, k2, s0, hc, z3, z5, setD, h1, zl, putS, hp, hset, h2, hg2, atI, ixN, Ev.d]
  by_cases s1 : (f cl).step = 1
  · have hp := hput ⟨(f cl).num, (f cl).op, 2⟩
    refine ⟨.did t (c / 36 % 3) cl (f cl).num (f cl).op, updc f cl ⟨(f cl).num, (f cl).op, 2⟩, [], ⟨upd_ops hf (hf cl), hf cl, .inr ⟨fun x => by unfold updc; split <;> first | (rename_i h; subst h; rfl) | rfl, fun _ _ _ _ z => by cases z⟩⟩, ?_⟩
    unfold Cl.d at hget hp
    dsimp only at hp
    simp [runBody, b10, evSs, evS, evE, evEs, ev2, ev1, evVar, evC, startE, negD, biD, binD, modD, subD, addD, fdivD, l3, l36, l2, hclg, tgD, optS, idxD, hst, isKey, hget, optD, cmpD, intE, truD, k0, k1, k2, s0, s1, z3, z4, z6, setD, zl, putS, hp, Ev.d]
  · have hp := hput ⟨(f cl).num, (f cl).op, 0⟩
    refine ⟨.acc t cl (f cl).num .non, updc f cl ⟨(f cl).num, (f cl).op, 0⟩, [], ⟨upd_ops hf (hf cl), rfl, .inr ⟨fun x => by unfold updc; split <;> first | (rename_i h; subst h; rfl) | rfl, fun _ _ _ _ z => by cases z⟩⟩, ?_⟩
    unfold Cl.d at hget hp
    dsimp only at hp
    simp [runBody, b10, evSs, evS, evE, evEs, ev2, ev1, evVar, evC, startE, negD, biD, binD, modD, subD, addD, fdivD, l3, l36, l2, hclg, tgD, optS, idxD, hst, isKey, hget, optD, cmpD, intE, truD, k0, k1, k2, s0, s1, z3, z5, setD, zl, putS, hp, Ev.d]
end
end K70

set_option Elab.async false
set_option linter.all false
set_option maxRecDepth 100000
set_option maxHeartbeats 4000000
/-! K70p: law: one turn of its loop. -/
namespace K70
open PySem PySem.Spec L2 Bs
abbrev st6 (f : Int → Cl) (m : Kv) (L : List Ev) (bs : List Nat) (told : List (Bs.D × Bs.D)) (F : O) (T : Store) : Store :=
  .dic false (stD f) :: .dic false (kvD m) :: .lst (L.map Ev.d) :: .lst (bs.map Bs.D.ref) :: .dit told :: F :: T
def lwBody : ISs := bodyOf (nth b14 5)
/-- what is asked of the law's own functions -/
structure CalL (G : Lang) : Prop where
  ev : ∀ (S : Store) (st : Nat) (f : Int → Cl) (c t : Int), S[st]? = some (.dic false (stD f)) → (∀ x, (f x).op.lim = true) → ∃ ev f' T, Made f ev f' ∧ G.call 10 [.ref st, .int c, .int t] S = .ok ev.d (S.set st (.dic false (stD f')) ++ T)
  an : ∀ (S : Store) (r : Nat) (m : Kv) (op : Op) (c : Int), S[r]? = some (.dic false (kvD m)) → m.length < 64 → op.lim = true → ∃ T a, okP 10 a = true ∧ G.call 8 [.ref r, op.d, .int c] S = .ok a (S ++ T)
  ch : ∀ (S : Store) (r : Nat) (m : Kv) (op : Op), S[r]? = some (.dic false (kvD m)) → m.length < 64 → G.call 9 [.ref r, op.d] S = .ok .non (S.set r (.dic false (kvD (chg m op))))
theorem good_ok {e : Ev} (h : e.good = true) : okP 40 e.d = true := by
  cases e with
  | call t c n op =>
    show (true && (true && (true && (true && (okP 39 op.d && true))))) = true
    rw [okP_mono 2 39 _ (by decide) (okop op)]
    rfl
  | did t s c n op =>
    show (true && (true && (true && ((true && (true && (true && (true && (true && (okP 38 op.d && true)))))) && true)))) = true
    rw [okP_mono 2 38 _ (by decide) (okop op)]
    rfl
  | gone t => rfl
  | acc t c n a =>
    show (true && (true && (true && (true && (okP 39 a && true))))) = true
    rw [okP_mono 20 39 _ (by decide) h]
    rfl
/-- the event that is kept -/
structure Turn1 (f : Int → Cl) (ev : Ev) (f' : Int → Cl) (m : Kv) (told told' : List (Bs.D × Bs.D)) (k : Nat) (T T' : Store) (b : Nat) : Prop where
  made : Made f ev f'
  tl : told'.length ≤ told.length + 1
  tk : ∀ k v, dget told' k = some v → okP 10 v = true
  pre : ∃ Tx, T' = T ++ Tx
  b1 : 6 ≤ b
  b2 : T'[b - 6]? = some (.dic false (kvD m))
def mStep (m : Kv) : Ev → Kv
  | .did _ _ _ _ op => chg m op
  | _ => m
section
variable {G : Lang}
theorem lw_step (C : CalL G) {f : Int → Cl} {m : Kv} {L : List Ev} {bs : List Nat} {told : List (Bs.D × Bs.D)} {F : O} {T : Store} {c : Int} {x0 x8 x9 : Option Bs.D} (hf : ∀ x, (f x).op.lim = true) (hm : m.length < 64) (hL : L.length < 100) (hbl : bs.length < 100) (htl : told.length < 100) (htk : ∀ k v, dget told k = some v → okP 10 v = true) :
    ∃ ev f' told' T' b y8 y9, evSs G lwBody [x0, some (.ref 0), some (.ref 1), some (.ref 2), some (.ref 3), some (.ref 4), some (.int c), none, x8, x9] (st6 f m L bs told F T) =
      .nx [x0, some (.ref 0), some (.ref 1), some (.ref 2), some (.ref 3), some (.ref 4), some (.int c), none, y8, y9] (st6 f' (mStep m ev) (L ++ [ev]) (bs ++ [b]) told' F T') ∧ Turn1 f ev f' m told told' L.length T T' b := by
  have z : (1000 : Nat) ≤ sizeLine := by decide
  have z1 : (1 : Nat) ≤ sizeLine := by decide
  have z2 : (2 : Nat) ≤ sizeLine := by decide
  have z5 : (5 : Nat) ≤ sizeLine := by decide
  have l7 : (7 : Int) < Bs.lim := by decide
  obtain ⟨ev, f', T1, hmade, h10⟩ := C.ev (st6 f m L bs told F T) 0 f c L.length rfl hf
  have hS1 : (st6 f m L bs told F T).set 0 (.dic false (stD f')) ++ T1 = st6 f' m L bs told F (T ++ T1) := rfl
  rw [hS1] at h10
  have hbl' : (bs.map Bs.D.ref).length < sizeLine := by rw [List.length_map]; omega
  have hLl' : (L.map Ev.d).length < sizeLine := by rw [List.length_map]; omega
  have m1 : methOf G [97, 112, 112, 101, 110, 100] (.ref 3) (st6 f' m L bs told F (T ++ T1)) = .ok .lst (st6 f' m L bs told F (T ++ T1)) := mo_app rfl
  have d1 : biD .dict [.ref 1] (st6 f' m L bs told F (T ++ T1)) = .ok (.ref (6 + (T ++ T1).length)) (st6 f' m L bs told F (T ++ T1 ++ [.dic false (kvD m)])) := by
    show Bs.alloc _ _ = _
    unfold Bs.alloc
    have : (st6 f' m L bs told F (T ++ T1)).length = 6 + (T ++ T1).length := by simp only [List.length_cons]; omega
    rw [this]
    rfl
  generalize hT2 : T ++ T1 ++ [O.dic false (kvD m)] = T2 at d1
  generalize hb : 6 + (T ++ T1).length = b at d1
  have hb2 : ∀ Ty, (T2 ++ Ty)[b - 6]? = some (.dic false (kvD m)) := fun Ty => by
    rw [← hT2, ← hb, show 6 + (T ++ T1).length - 6 = (T ++ T1).length by omega]
    exact get_app (by rw [List.getElem?_append_right (Nat.le_refl _)]; simp)
  have hpre : ∀ Ty, ∃ Tx, T2 ++ Ty = T ++ Tx := fun Ty => ⟨T1 ++ ([O.dic false (kvD m)] ++ Ty), by rw [← hT2]; simp only [List.append_assoc]⟩
  have hb6 : 6 ≤ b := by omega
  have m2 : methD G [97, 112, 112, 101, 110, 100] .lst (.ref 3) [.ref b] (st6 f' m L bs told F T2) = .ok .non (st6 f' m L (bs ++ [b]) told F T2) := by
    rw [md_app (r := 3) (xs := bs.map Bs.D.ref) rfl hbl']
    simp [st6]
  have m3 : ∀ (mm : Kv) tt TT, methOf G [97, 112, 112, 101, 110, 100] (.ref 2) (st6 f' mm L (bs ++ [b]) tt F TT) = .ok .lst (st6 f' mm L (bs ++ [b]) tt F TT) := fun mm tt TT => mo_app rfl
  have m4 : ∀ (e : Ev) (mm : Kv) tt TT, methD G [97, 112, 112, 101, 110, 100] .lst (.ref 2) [e.d] (st6 f' mm L (bs ++ [b]) tt F TT) = .ok .non (st6 f' mm (L ++ [e]) (bs ++ [b]) tt F TT) := fun e mm tt TT => by
    rw [md_app (r := 2) (xs := L.map Ev.d) rfl hLl']
    simp [st6]
  have len2 : ∀ ff mm bb tt TT, biD .len [.ref 2] (st6 ff mm L bb tt F TT) = .ok (.int L.length) (st6 ff mm L bb tt F TT) := fun ff mm bb tt TT => by
    show Bs.Res.ok (Bs.D.int ((L.map Ev.d).length : Int)) _ = _
    rw [List.length_map]
  cases ev with
  | call t cl n op =>
    refine ⟨_, f', told, T2, b, some (Ev.call t cl n op).d, x9, ?_, ⟨hmade, Nat.le_succ _, htk, by simpa using hpre [], hb6, by simpa using hb2 []⟩⟩
    have m4' := m4 (Ev.call t cl n op) m told T2
    unfold Ev.d at h10 m4' ⊢
    simp [lwBody, bodyOf, nth, b14, evSs, evS, evE, evEs, evAnd, IEs.isNil, ev2, ev1, evVar, evC, len2, h10, tgD, optS, m1, d1, m2, idx_tup, atI, ixN, optD, cmpD, strE, truD, m3, m4', mStep]
  | gone t =>
    refine ⟨_, f', told, T2, b, some (Ev.gone t).d, x9, ?_, ⟨hmade, Nat.le_succ _, htk, by simpa using hpre [], hb6, by simpa using hb2 []⟩⟩
    have m4' := m4 (Ev.gone t) m told T2
    unfold Ev.d at h10 m4' ⊢
    simp [lwBody, bodyOf, nth, b14, evSs, evS, evE, evEs, evAnd, IEs.isNil, ev2, ev1, evVar, evC, len2, h10, tgD, optS, m1, d1, m2, idx_tup, atI, ixN, optD, cmpD, strE, truD, m3, m4', mStep]
  | did t s cl n op =>
    have hop : op.lim = true := hmade.good
    have in4 : inD (key cl n) (.ref 4) (st6 f' m L (bs ++ [b]) told F T2) = .ok (dget told (key cl n)).isSome (st6 f' m L (bs ++ [b]) told F T2) := rfl
    cases e : dget told (key cl n) with
    | none =>
      obtain ⟨T3, a, hak, h8⟩ := C.an (st6 f' m L (bs ++ [b]) told F T2) 1 m op (c / 7) rfl hm hop
      have hS3 : st6 f' m L (bs ++ [b]) told F T2 ++ T3 = st6 f' m L (bs ++ [b]) told F (T2 ++ T3) := rfl
      rw [hS3] at h8
      have s4 : setD (.ref 4) (key cl n) a (st6 f' m L (bs ++ [b]) told F (T2 ++ T3)) = .ok () (st6 f' m L (bs ++ [b]) (dput told (key cl n) a) F (T2 ++ T3)) := by
        show (if isKeyT (key cl n) = true ∧ told.length < sizeLine then putS 4 (.dit (dput told (key cl n) a)) _ else .stuck) = _
        rw [if_pos ⟨rfl, by omega⟩]
        rfl
      have h9 := C.ch (st6 f' m L (bs ++ [b]) (dput told (key cl n) a) F (T2 ++ T3)) 1 m op rfl hm
      have hS4 : (st6 f' m L (bs ++ [b]) (dput told (key cl n) a) F (T2 ++ T3)).set 1 (.dic false (kvD (chg m op))) = st6 f' (chg m op) L (bs ++ [b]) (dput told (key cl n) a) F (T2 ++ T3) := rfl
      rw [hS4] at h9
      refine ⟨_, f', dput told (key cl n) a, T2 ++ T3, b, some (Ev.did t s cl n op).d, some (key cl n), ?_, ⟨hmade, dput_len, fun k v hv => ?_, hpre T3, hb6, hb2 T3⟩⟩
      · have m4' := m4 (Ev.did t s cl n op) (chg m op) (dput told (key cl n) a) (T2 ++ T3)
        rw [e] at in4
        unfold key at in4 s4 m4' h9 ⊢
        unfold Ev.d at h10 m4' ⊢
        simp [lwBody, bodyOf, nth, b14, evSs, evS, evE, evEs, evAnd, IEs.isNil, ev2, ev1, evVar, evC, len2, h10, tgD, optS, m1, d1, m2, idx_tup, atI, ixN, optD, cmpD, strE, truD, in4, z2, binD, fdivD, l7, h8, s4, h9, m3, m4', mStep]
      · rw [dget_dput] at hv
        split at hv
        · cases hv; exact hak
        · exact htk k v hv
    | some v0 =>
      have h9 := C.ch (st6 f' m L (bs ++ [b]) told F T2) 1 m op rfl hm
      have hS4 : (st6 f' m L (bs ++ [b]) told F T2).set 1 (.dic false (kvD (chg m op))) = st6 f' (chg m op) L (bs ++ [b]) told F T2 := rfl
      rw [hS4] at h9
      refine ⟨_, f', told, T2, b, some (Ev.did t s cl n op).d, some (key cl n), ?_, ⟨hmade, Nat.le_succ _, htk, by simpa using hpre [], hb6, by simpa using hb2 []⟩⟩
      have m4' := m4 (Ev.did t s cl n op) (chg m op) told T2
      rw [e] at in4
      unfold key at in4 ⊢
      unfold Ev.d at h10 m4' ⊢
      simp [lwBody, bodyOf, nth, b14, evSs, evS, evE, evEs, evAnd, IEs.isNil, ev2, ev1, evVar, evC, len2, h10, tgD, optS, m1, d1, m2, idx_tup, atI, ixN, optD, cmpD, strE, truD, in4, z2, binD, fdivD, l7, h9, m3, m4', mStep]
  | acc t cl n a =>
    by_cases ea : a = .non
    · subst ea
      have m5 : methOf G [103, 101, 116] (.ref 4) (st6 f' m L (bs ++ [b]) told F T2) = .ok .dic (st6 f' m L (bs ++ [b]) told F T2) := mo_getT rfl
      have m6 : methD G [103, 101, 116] .dic (.ref 4) [key cl n, .tup [.str [110, 111, 110, 101]]] (st6 f' m L (bs ++ [b]) told F T2) = .ok ((dget told (key cl n)).getD (.tup [.str [110, 111, 110, 101]])) (st6 f' m L (bs ++ [b]) told F T2) := md_getT (r := 4) rfl rfl
      have hv : okP 10 ((dget told (key cl n)).getD (.tup [.str [110, 111, 110, 101]])) = true := by
        cases e : dget told (key cl n) with
        | none => rfl
        | some v => exact htk _ v e
      generalize (dget told (key cl n)).getD (.tup [.str [110, 111, 110, 101]]) = v at m6 hv
      have hmade' : Made f (.acc t cl n v) f' := by
        refine ⟨hmade.ops, okP_mono 10 20 _ (by decide) hv, .inr ?_⟩
        rcases hmade.num with ⟨t', c', op', e, _⟩ | ⟨h1, _⟩
        · cases e
        · exact ⟨h1, fun _ _ _ _ z => by cases z⟩
      have sl : ∀ (a b c d e : Bs.D), sliceL [a, b, c, d, e] none (some 4) = [a, b, c, d] := fun a b c d e => rfl
      refine ⟨.acc t cl n v, f', told, T2, b, some (Ev.acc t cl n v).d, x9, ?_, ⟨hmade', Nat.le_succ _, htk, by simpa using hpre [], hb6, by simpa using hb2 []⟩⟩
      have m4' := m4 (Ev.acc t cl n v) m told T2
      unfold key at m6
      unfold Ev.d at h10 m4' ⊢
      simp [lwBody, bodyOf, nth, b14, evSs, evS, evE, evEs, evO, evAnd, IEs.isNil, ev2, ev1, evVar, evC, len2, h10, tgD, optS, m1, d1, m2, idx_tup, atI, ixN, optD, cmpD, strE, truD, slcD, sl, m5, m6, z1, z2, z5, binD, addD, m3, m4', mStep]
    · refine ⟨_, f', told, T2, b, some (Ev.acc t cl n a).d, x9, ?_, ⟨hmade, Nat.le_succ _, htk, by simpa using hpre [], hb6, by simpa using hb2 []⟩⟩
      have m4' := m4 (Ev.acc t cl n a) m told T2
      unfold Ev.d at h10 m4' ⊢
      simp [lwBody, bodyOf, nth, b14, evSs, evS, evE, evEs, evAnd, IEs.isNil, ev2, ev1, evVar, evC, len2, h10, tgD, optS, m1, d1, m2, idx_tup, atI, ixN, optD, cmpD, strE, truD, ea, m3, m4', mStep]
end
end K70

set_option Elab.async false
set_option linter.all false
set_option maxRecDepth 100000
set_option maxHeartbeats 4000000
/-! K70q: law: the whole. -/
namespace K70
open PySem PySem.Spec L2 Bs
theorem reqF_ok : ∀ (r P : List Ev), okP 60 (reqF P r) = true
  | [], P => rfl
  | e :: r, P => by
    unfold reqF
    cases h : faultR P e with
    | none => exact reqF_ok r _
    | some d =>
      dsimp only
      unfold faultR at h
      cases e with
      | did t s c n op =>
        dsimp only at h
        split at h
        · cases h; rfl
        · split at h <;> cases h
          rfl
      | _ => cases h
theorem ansF_ok : ∀ (r P : List Ev), okP 60 (ansF P r) = true
  | [], P => rfl
  | e :: r, P => by
    unfold ansF
    cases h : faultA P e with
    | none => exact ansF_ok r _
    | some d =>
      dsimp only
      unfold faultA at h
      cases e with
      | acc t c n a =>
        dsimp only at h
        split at h
        · cases h; rfl
        · split at h <;> cases h
          rfl
      | _ => cases h
theorem okPs_of {n : Nat} {l : List Bs.D} (h : ∀ d ∈ l, okP n d = true) : okPs n l = true := by
  induction l with
  | nil => rfl
  | cons a r ih =>
    have : (okP n a && okPs n r) = true := by rw [h a (by simp), ih fun d hd => h d (by simp [hd])]; rfl
    cases n <;> exact this
theorem eqbs_self (xs : List Bs.D) : eqbs xs xs = true := eqbs_refl xs
theorem lists_eq {S : Store} {a b : Nat} {xs : List Bs.D} (ha : S[a]? = some (.lst xs)) (hb : S[b]? = some (.lst xs)) (h : okPs 59 xs = true) : eqD (.ref a) (.ref b) S = .ok (.bl true) S := by
  unfold eqD
  have e : ∀ n : Nat, S[n]? = some (.lst xs) → toPd S 60 (.ref n) = some (.list (pdsOf xs)) := fun n hn => by
    show (match S[n]? with
      | some (.lst xs) => (optAll (toPd S 59) xs).map PyData.list
      | _ => none) = _
    rw [hn]
    dsimp only
    rw [toPds_ok S 59 xs h]
    rfl
  rw [e a ha, e b hb]
  dsimp only
  show Bs.Res.ok (Bs.D.bl (PyData.eqvAll (pdsOf xs) (pdsOf xs))) S = _
  rw [eqvs_ok xs xs 59 59 h h, eqbs_self]
structure CalW (G : Lang) : Prop extends CalL G where
  rf : ∀ (S : Store) (e0 : Nat) (L : List Ev), S[e0]? = some (.lst (L.map Ev.d)) → L.length < 1000 → ∃ T, G.call 3 [.ref e0] S = .ok (reqF [] L) (S ++ T)
  lr : ∀ (S : Store) (e0 : Nat) (L : List Ev), S[e0]? = some (.lst (L.map Ev.d)) → L.length < 1000 → ∃ T, G.call 12 [.ref e0] S = .ok (lawReq [] L) (S ++ T)
  af : ∀ (S : Store) (e0 : Nat) (L : List Ev), S[e0]? = some (.lst (L.map Ev.d)) → L.length ≤ 60 → (∀ e ∈ L, e.good = true) → ∃ T, G.call 5 [.ref e0] S = .ok (ansF [] L) (S ++ T)
  la : ∀ (S : Store) (e0 b0 : Nat) (L : List Ev) (bs : List Nat), S[e0]? = some (.lst (L.map Ev.d)) → S[b0]? = some (.lst (bs.map .ref)) → L.length ≤ 60 → (∀ j, j < L.length → ∃ b, bs[j]? = some b ∧ S[b]? = some (.dic false (kvD (mAt (L.take j))))) → (∀ e ∈ L, e.good = true) → ∃ T, G.call 13 [.ref e0, .ref b0] S = .ok (ansF [] L) (S ++ T)
/-- the law's state behind i cells -/
structure Sta (i : Nat) (f : Int → Cl) (L : List Ev) (bs : List Nat) (told : List (Bs.D × Bs.D)) (F : O) (T : Store) : Prop where
  l : L.length = i
  b : bs.length = i
  t : told.length ≤ i
  ops : ∀ x, (f x).op.lim = true
  tk : ∀ k v, dget told k = some v → okP 10 v = true
  good : ∀ e ∈ L, e.good = true
  snap : ∀ j, j < L.length → ∃ b, bs[j]? = some b ∧ 6 ≤ b ∧ (st6 f (mAt L) L bs told F T)[b]? = some (.dic false (kvD (mAt (L.take j))))
  num : ∀ (j : Nat) (t c n : Int) (op : Op), L[j]? = some (Ev.call t c n op) → n ≤ (f c).num
  once : Once L
theorem mAt_step (L : List Ev) (e : Ev) : mAt (L ++ [e]) = mStep (mAt L) e := by
  rw [mAt_app]
  cases e <;> rfl
theorem st_tail (f : Int → Cl) (m : Kv) (L : List Ev) (bs : List Nat) (told : List (Bs.D × Bs.D)) (F : O) (T : Store) {b : Nat} (h : 6 ≤ b) : (st6 f m L bs told F T)[b]? = T[b - 6]? := by
  obtain ⟨k, rfl⟩ : ∃ k, b = k + 6 := ⟨b - 6, by omega⟩
  rfl
theorem sta_step {i : Nat} {f f' : Int → Cl} {L : List Ev} {bs : List Nat} {told told' : List (Bs.D × Bs.D)} {F : O} {T T' : Store} {ev : Ev} {b : Nat} (s : Sta i f L bs told F T) (t : Turn1 f ev f' (mAt L) told told' L.length T T' b) : Sta (i + 1) f' (L ++ [ev]) (bs ++ [b]) told' F T' := by
  refine ⟨by simp [s.l], by simp [s.b], by have := t.tl; have := s.t; omega, t.made.ops, t.tk, fun e he => ?_, fun j hj => ?_, ?_, ?_⟩
  · rcases List.mem_append.mp he with h | h
    · exact s.good e h
    · have : e = ev := by simpa using h
      subst this; exact t.made.good
  · by_cases hj' : j < L.length
    · obtain ⟨b', h1, h2, h3⟩ := s.snap j hj'
      refine ⟨b', by rw [List.getElem?_append_left (by rw [s.b, ← s.l]; exact hj')]; exact h1, h2, ?_⟩
      rw [st_tail _ _ _ _ _ _ _ h2] at h3 ⊢
      obtain ⟨Tx, rfl⟩ := t.pre
      rw [List.take_append_of_le_length (Nat.le_of_lt hj')]
      exact get_app h3
    · have hjl : j = L.length := by simp at hj; omega
      subst hjl
      refine ⟨b, by rw [s.l, ← s.b]; simp, t.b1, ?_⟩
      rw [st_tail _ _ _ _ _ _ _ t.b1, List.take_left]
      exact t.b2
  · intro j tt c n op hj
    by_cases hj' : j < L.length
    · rw [List.getElem?_append_left hj'] at hj
      have h1 := s.num j tt c n op hj
      rcases t.made.num with ⟨t', c', op', e, h2, h3⟩ | ⟨h2, _⟩
      · by_cases hc : c = c'
        · subst hc; omega
        · rw [h3 c hc]; exact h1
      · rw [h2]; exact h1
    · rw [List.getElem?_append_right (Nat.le_of_not_lt hj')] at hj
      have hz : j - L.length = 0 := by
        cases k : j - L.length with
        | zero => rfl
        | succ k' => rw [k] at hj; cases hj
      rw [hz] at hj
      have hj : ev = Ev.call tt c n op := by simpa using hj
      rcases t.made.num with ⟨t', c', op', e, h2, h3⟩ | ⟨_, h2⟩
      · rw [hj] at e; cases e; rw [h2]; exact Int.le_refl _
      · exact absurd hj (h2 _ _ _ _)
  · intro a b' tt c n op tt' op' h1 h2
    have last : ∀ {k : Nat} {x : Ev}, (L ++ [ev])[k]? = some x → (k < L.length ∧ L[k]? = some x) ∨ (k = L.length ∧ x = ev) := fun {k x} h => by
      by_cases hk : k < L.length
      · rw [List.getElem?_append_left hk] at h; exact .inl ⟨hk, h⟩
      · rw [List.getElem?_append_right (Nat.le_of_not_lt hk)] at h
        cases e : k - L.length with
        | zero => rw [e] at h; exact .inr ⟨by omega, by simpa using h.symm⟩
        | succ k' => rw [e] at h; cases h
    have fresh : ∀ {k : Nat} {t1 c1 n1 : Int} {o1 : Op} {t2 : Int} {o2 : Op}, L[k]? = some (Ev.call t1 c1 n1 o1) → ev = Ev.call t2 c1 n1 o2 → False := fun {k t1 c1 n1 o1 t2 o2} h e => by
      have := s.num k t1 c1 n1 o1 h
      rcases t.made.num with ⟨t', c', op', e', _, _⟩ | ⟨_, h2⟩
      · rw [e] at e'; cases e'; omega
      · exact h2 _ _ _ _ e
    rcases last h1 with ⟨p1, q1⟩ | ⟨p1, q1⟩
    · rcases last h2 with ⟨p2, q2⟩ | ⟨p2, q2⟩
      · exact s.once a b' tt c n op tt' op' q1 q2
      · exact (fresh q1 q2.symm).elim
    · rcases last h2 with ⟨p2, q2⟩ | ⟨p2, q2⟩
      · exact (fresh q2 q1.symm).elim
      · omega
end K70

set_option Elab.async false
set_option linter.all false
set_option maxRecDepth 100000
set_option maxHeartbeats 4000000
/-! K70r: law: its loop, its end. -/
namespace K70
open PySem PySem.Spec L2 Bs
def f0 : Int → Cl := fun _ => ⟨0, .get [97], 0⟩
def cells (ns : List Int) : List Bs.D := (sliceL ns none (some 30)).map .int
theorem cells_len (ns : List Int) : (cells ns).length ≤ 30 := by
  unfold cells sliceL
  rw [List.length_map, List.length_take, HT.sIx_none]
  have := HT.sIx_nat ns.length ns.length 30
  have e : HT.sIx ns.length ns.length (some 30) = min 30 ns.length := this
  rw [e]
  omega
theorem cells_mem {ns : List Int} {d : Bs.D} (h : d ∈ cells ns) : ∃ c, d = .int c := by
  unfold cells at h
  obtain ⟨c, _, rfl⟩ := List.mem_map.mp h
  exact ⟨c, rfl⟩
def EndL (n : Nat) (ns : List Int) (r : SR) : Prop := ∃ f L bs told T x6 x8 x9, r = .nx [some (.scr ns), some (.ref 0), some (.ref 1), some (.ref 2), some (.ref 3), some (.ref 4), x6, none, x8, x9] (st6 f (mAt L) L bs told (.lst (cells ns)) T) ∧ Sta n f L bs told (.lst (cells ns)) T
theorem b14_eq : b14 = .cons (nth b14 0) (.cons (nth b14 1) (.cons (nth b14 2) (.cons (nth b14 3) (.cons (nth b14 4) (.cons (.for_ (.name 6) (.exp (.slc (.var 0) .none (.some (.cst (.int 30))))) lwBody) (restOf b14 6)))))) := rfl
section
variable {G : Lang}
theorem law_loop (C : CalL G) (ns : List Int) : EndL (cells ns).length ns (forN (.live 5) (.name 6) (evSs G lwBody) (cells ns).length 0 [some (.scr ns), some (.ref 0), some (.ref 1), some (.ref 2), some (.ref 3), some (.ref 4), none, none, none, none] (st6 f0 [] [] [] [] (.lst (cells ns)) [])) := by
  have hc := cells_len ns
  refine for_rule (xs := cells ns) (fun i rho S' => i ≤ (cells ns).length ∧ ∃ f L bs told T x6 x8 x9, S' = st6 f (mAt L) L bs told (.lst (cells ns)) T ∧ rho = [some (.scr ns), some (.ref 0), some (.ref 1), some (.ref 2), some (.ref 3), some (.ref 4), x6, none, x8, x9] ∧ Sta i f L bs told (.lst (cells ns)) T) ?_ ?_ ?_ _ _ _ _
    ⟨Nat.zero_le _, f0, [], [], [], [], none, none, none, rfl, rfl, ⟨rfl, rfl, Nat.zero_le _, fun _ => rfl, fun k v h => (by cases h), fun e h => (by cases h), fun j h => (by cases h), fun j t c n op h => (by cases h), fun i j t c n op t' op' h => (by cases h)⟩⟩ (Nat.zero_le _) (by omega)
  · rintro i rho S' ⟨_, f, L, bs, told, T, x6, x8, x9, rfl, rfl, s⟩
    rfl
  · rintro i d rho S' hd ⟨hi, f, L, bs, told, T, x6, x8, x9, rfl, rfl, s⟩
    obtain ⟨c, rfl⟩ := cells_mem (List.mem_of_getElem? hd)
    have hlt := (List.getElem?_eq_some_iff.mp hd).1
    have hm : (mAt L).length < 64 := by have := mAt_len L; have := s.l; omega
    obtain ⟨ev, f', told', T', b, y8, y9, q, t⟩ := lw_step C (x0 := some (.scr ns)) (x8 := x8) (x9 := x9) (c := c) (F := .lst (cells ns)) (T := T) (L := L) (bs := bs) s.ops hm (by have := s.l; omega) (by have := s.b; omega) (by have := s.t; omega) s.tk
    refine ⟨_, rfl, ?_⟩
    show stepZ _ _ (evSs G lwBody [some (.scr ns), some (.ref 0), some (.ref 1), some (.ref 2), some (.ref 3), some (.ref 4), some (.int c), none, x8, x9] (st6 f (mAt L) L bs told (.lst (cells ns)) T))
    rw [q, ← mAt_step]
    exact ⟨hlt, f', L ++ [ev], bs ++ [b], told', T', some (.int c), y8, y9, rfl, rfl, sta_step s t⟩
  · rintro rho S' ⟨_, f, L, bs, told, T, x6, x8, x9, rfl, rfl, s⟩
    exact ⟨f, L, bs, told, T, x6, x8, x9, rfl, s⟩
theorem law_end_ok (C : CalW G) {f : Int → Cl} {L : List Ev} {bs : List Nat} {told : List (Bs.D × Bs.D)} {F : O} {T : Store} {n : Nat} {x0 x1 x4' x5 x6 x8 x9 : Option Bs.D} (s : Sta n f L bs told F T) (hn : n ≤ 30) :
    ∃ S', evSs G (restOf b14 6) [x0, x1, x4', some (.ref 2), some (.ref 3), x5, x6, none, x8, x9] (st6 f (mAt L) L bs told F T) = .rt (.bl true) S' := by
  have hL : L.length ≤ 60 := by have := s.l; omega
  have z : (1000 : Nat) ≤ sizeLine := by decide
  have hLs : L.length ≤ sizeLine := by omega
  generalize hS : st6 f (mAt L) L bs told F T = S
  have g2 : S[2]? = some (.lst (L.map Ev.d)) := by rw [← hS]; rfl
  have g3 : S[3]? = some (.lst (bs.map .ref)) := by rw [← hS]; rfl
  have gs : ∀ j, j < L.length → ∃ b, bs[j]? = some b ∧ S[b]? = some (.dic false (kvD (mAt (L.take j)))) := fun j hj => by
    obtain ⟨b, h1, _, h3⟩ := s.snap j hj
    exact ⟨b, h1, by rw [← hS]; exact h3⟩
  have hl : biD .list [.ref 2] S = .ok (.ref S.length) (S ++ [.lst (L.map Ev.d)]) := by
    have h1 : walkD (.ref 2) S = some (L.map Ev.d) := by unfold walkD; dsimp only; rw [g2]
    have hls' : (L.map Ev.d).length ≤ sizeLine := by rw [List.length_map]; exact hLs
    simp [biD, h1, hls', hLs, Bs.alloc]
  have gh : (S ++ [O.lst (L.map Ev.d)])[S.length]? = some (.lst (L.map Ev.d)) := by simp
  obtain ⟨T1, h1⟩ := C.rf (S ++ [.lst (L.map Ev.d)]) S.length L gh (by omega)
  obtain ⟨T2, h2⟩ := C.lr (S ++ [.lst (L.map Ev.d)] ++ T1) 2 L (get_app (get_app g2)) (by omega)
  obtain ⟨T3, h3⟩ := C.af (S ++ [.lst (L.map Ev.d)] ++ T1 ++ T2) S.length L (get_app (get_app gh)) hL s.good
  obtain ⟨T4, h4⟩ := C.la (S ++ [.lst (L.map Ev.d)] ++ T1 ++ T2 ++ T3) 2 3 L bs (get_app (get_app (get_app (get_app g2)))) (get_app (get_app (get_app (get_app g3)))) hL (fun j hj => let ⟨b, q1, q2⟩ := gs j hj; ⟨b, q1, get_app (get_app (get_app (get_app q2)))⟩) s.good
  have hreq : lawReq [] L = reqF [] L := req_eq s.once L [] rfl
  rw [hreq] at h2
  have n1 : ∀ S, neD (reqF [] L) (reqF [] L) S = .ok (.bl false) S := fun S => by rw [Bs.neD_ok (reqF_ok _ _) (reqF_ok _ _)]; simp
  have n2 : ∀ S, neD (ansF [] L) (ansF [] L) S = .ok (.bl false) S := fun S => by rw [Bs.neD_ok (ansF_ok _ _) (ansF_ok _ _)]; simp
  have ge5h : (S ++ [.lst (L.map Ev.d)] ++ T1 ++ T2 ++ T3 ++ T4)[S.length]? = some (.lst (L.map Ev.d)) := get_app (get_app (get_app (get_app gh)))
  have ge52 : (S ++ [.lst (L.map Ev.d)] ++ T1 ++ T2 ++ T3 ++ T4)[2]? = some (.lst (L.map Ev.d)) := get_app (get_app (get_app (get_app (get_app g2))))
  have e1 := lists_eq ge5h ge52 (okPs_of fun d hd => by
    obtain ⟨e, he, rfl⟩ := List.mem_map.mp hd
    exact okP_mono 40 59 _ (by decide) (good_ok (s.good e he)))
  generalize hS1 : S ++ [O.lst (L.map Ev.d)] = S1 at hl h1 h2 h3 h4 e1
  generalize hS2 : S1 ++ T1 = S2 at h1 h2 h3 h4 e1
  generalize hS3 : S2 ++ T2 = S3 at h2 h3 h4 e1
  generalize hS4 : S3 ++ T3 = S4 at h3 h4 e1
  generalize hS5 : S4 ++ T4 = S5 at h4 e1
  obtain ⟨T6, h6⟩ := C.rf (S5 ++ [.lst []]) S5.length [] (by simp) (by simp)
  generalize hS6 : S5 ++ [O.lst []] ++ T6 = S6 at h6
  obtain ⟨T7, h7⟩ := C.af (S6 ++ [.lst []]) S6.length [] (by simp) (by simp) (fun e h => by cases h)
  generalize hS7 : S6 ++ [O.lst []] ++ T7 = S7 at h7
  have r0 : reqF [] [] = .non := rfl
  have a0 : ansF [] [] = .non := rfl
  rw [r0] at h6
  rw [a0] at h7
  refine ⟨S7, ?_⟩
  simp [restOf, b14, evSs, evS, evE, evEs, evOr, evAnd, IEs.isNil, ev2, ev1, evVar, evC, hl, tgD, optS, h1, h2, h3, h4, cmpD, n1, n2, truD, e1, Bs.alloc, h6, h7]
theorem law_ok (C : CalW G) (ns : List Int) (hns : ns.length ≤ 63) : ∃ S', runBody G 10 1 b14 [.scr ns] [] = .ok (.bl true) S' := by
  obtain ⟨f, L, bs, told, T, x6, x8, x9, q, s⟩ := law_loop C.toCalL ns
  obtain ⟨S', h⟩ := law_end_ok C (x0 := some (.scr ns)) (x1 := some (.ref 0)) (x4' := some (.ref 1)) (x5 := some (.ref 4)) (x6 := x6) (x8 := x8) (x9 := x9) s (cells_len ns)
  refine ⟨S', ?_⟩
  have z3 : (3 : Nat) ≤ sizeLine := by decide
  have z2 : (2 : Nat) ≤ sizeLine := by decide
  have z0 : (0 : Nat) ≤ sizeLine := by decide
  have p0 : evSs G (.cons (nth b14 0) (.cons (nth b14 1) (.cons (nth b14 2) (.cons (nth b14 3) (.cons (nth b14 4) .nil))))) [some (.scr ns), none, none, none, none, none, none, none, none, none] [] =
      .nx [some (.scr ns), some (.ref 0), some (.ref 1), some (.ref 2), some (.ref 3), some (.ref 4), none, none, none, none] [.dic false (stD f0), .dic false [], .lst [], .lst [], .dit []] := by
    simp [nth, b14, evSs, evS, evE, evEs, evPs, ev1, ev2, evC, negD, Bs.alloc, z3, z2, tgD, optS, isKey, dput, stD, f0, Cl.d, Op.d]
  have hit : evT G (.exp (.slc (.var 0) .none (.some (.cst (.int 30))))) [some (.scr ns), some (.ref 0), some (.ref 1), some (.ref 2), some (.ref 3), some (.ref 4), none, none, none, none] [.dic false (stD f0), .dic false [], .lst [], .lst [], .dit []] = .ok (.live 5) (st6 f0 [] [] [] [] (.lst (cells ns)) []) := by
    simp [evT, evE, evO, ev1, evVar, evC, slcD, Bs.alloc, iterD, cells, kvD]
  have hlen : lenI (.live 5) (st6 f0 [] [] [] [] (.lst (cells ns)) []) = (cells ns).length := rfl
  have e1 : ∀ (a b c d e : IS) (r : ISs) rho S, evSs G (.cons a (.cons b (.cons c (.cons d (.cons e r))))) rho S = (evSs G (.cons a (.cons b (.cons c (.cons d (.cons e .nil))))) rho S).seq (evSs G r) := fun a b c d e r rho S => by
    have cons' : ∀ (s : IS) (r : ISs), evSs G (.cons s r) = fun rho S => (evS G s rho S).seq (evSs G r) := fun _ _ => rfl
    have nil' : evSs G .nil = SR.nx := rfl
    have assoc : ∀ (r : SR) (f g : Mz), (r.seq f).seq g = r.seq fun rho S => (f rho S).seq g := fun r f g => by cases r <;> rfl
    simp only [cons', nil', assoc, seq_nx]
  rw [runBody_eq (k := 1) (args := [.scr ns]) rfl, b14_eq, e1]
  have hst : startE 10 [.scr ns] = [some (.scr ns), none, none, none, none, none, none, none, none, none] := rfl
  rw [hst, p0, seq_nx, evSs_cons]
  have hfor : evS G (.for_ (.name 6) (.exp (.slc (.var 0) .none (.some (.cst (.int 30))))) lwBody) [some (.scr ns), some (.ref 0), some (.ref 1), some (.ref 2), some (.ref 3), some (.ref 4), none, none, none, none] [.dic false (stD f0), .dic false [], .lst [], .lst [], .dit []] = .nx [some (.scr ns), some (.ref 0), some (.ref 1), some (.ref 2), some (.ref 3), some (.ref 4), x6, none, x8, x9] (st6 f (mAt L) L bs told (.lst (cells ns)) T) := by
    unfold evS
    rw [hit, sr1_ok, hlen, q]
    rfl
  rw [hfor, seq_nx, h]
  rfl
end
end K70

set_option Elab.async false
set_option linter.all false
set_option maxRecDepth 100000
set_option maxHeartbeats 4000000
/-! K70s: law, by the program's own calls. -/
namespace K70
open PySem PySem.Spec L2 Bs
abbrev Ln (n : Nat) : Lang := prg.lang (prg.callN n)
theorem n_dr (n : Nat) (e : Ev) (S : Store) : (Ln (n + 1)).call 2 [e.d] S = .ok (.bl e.isDid) S := by
  show runBody (Ln n) 1 1 b2 [e.d] S = _
  exact does_ok e S
theorem n_page (n : Nat) (S : Store) (r : Nat) (m : Kv) (low : Sx) (lim : Int) (hi : Bs.D) (hr : S[r]? = some (.dic false (kvD m))) (hm : m.length < 64) (hl : 0 ≤ lim) : ∃ T ans, (Ln (n + 1)).call 0 [.ref r, .str low, .int lim, hi] S = .ok ans (S ++ T) := by
  show ∃ T ans, runBody (Ln n) 7 4 b0 [.ref r, .str low, .int lim, hi] S = _
  exact page_ok hr hm hl
theorem n_cal (n : Nat) : Cal (Ln (n + 2)) where
  dr := fun e S => n_dr (n + 1) e S
  ap := fun S r m op hi hr hm hop => by
    show ∃ T ans, runBody (Ln (n + 1)) 5 3 b1 [.ref r, op.d, hi] S = _ ∧ _
    exact apply_all (fun S' low lim hi hr hl => n_page n S' r m low lim hi hr hm hl) hr hm hop
  pf := fun S r m low lim a hr hm ha => by
    show ∃ T, runBody (Ln (n + 1)) 10 3 b4 [.ref r, .tup [.str [112, 97, 103, 101], .str low, .int lim], a] S = _
    exact page_fits_ok hr hm ha
theorem n_lf (n : Nat) (S : Store) (r : Nat) (m : Kv) (op : Op) (a : Bs.D) (hr : S[r]? = some (.dic false (kvD m))) (hm : m.length < 64) (ha : okP 60 a = true) : ∃ T, (Ln (n + 2)).call 11 [op.d, a, .ref r] S = .ok (.bl (fitsA m op a)) (S ++ T) := by
  show ∃ T, runBody (Ln (n + 1)) 6 3 b11 [op.d, a, .ref r] S = _
  refine law_fits_ok (fun hp => ?_) hr hm ha
  show runBody (Ln n) 7 3 b8 [.ref r, op.d, .int 1] S = _
  exact law_answer_ok hr hp
theorem n_calL (n : Nat) : CalL (Ln (n + 2)) where
  ev := fun S st f c t hst hf => by
    show ∃ ev f' T, Made f ev f' ∧ runBody (Ln (n + 1)) 8 3 b10 [.ref st, .int c, .int t] S = _
    refine law_event_ok (fun c S => ?_) hst hf
    show ∃ (op : Op) (T : Store), op.lim = true ∧ runBody (Ln n) 4 1 b7 [.int c] S = _
    exact law_op_ok c S
  an := fun S r m op c hr hm hop => by
    show ∃ T a, okP 10 a = true ∧ runBody (Ln (n + 1)) 7 3 b8 [.ref r, op.d, .int c] S = _
    obtain ⟨T, a, h1, _, h2⟩ := law_answer_all (G := Ln (n + 1)) (c := c) hr hm hop
    exact ⟨T, a, h1, h2⟩
  ch := fun S r m op hr hm => by
    show runBody (Ln (n + 1)) 2 2 b9 [.ref r, op.d] S = _
    exact law_change_ok hr hm
theorem n_calW (n : Nat) : CalW (Ln (n + 3)) where
  toCalL := n_calL (n + 1)
  rf := fun S e0 L he hL => by
    show ∃ T, runBody (Ln (n + 2)) 7 1 b3 [.ref e0] S = _
    exact request_fault_ok (fun e S => n_dr (n + 1) e S) he hL
  lr := fun S e0 L he hL => by
    show ∃ T, runBody (Ln (n + 2)) 6 1 b12 [.ref e0] S = _
    exact law_requests_ok he hL
  af := fun S e0 L he hL hg => by
    show ∃ T, runBody (Ln (n + 2)) 8 1 b5 [.ref e0] S = _
    exact answer_fault_ok (n_cal n) he hL hg
  la := fun S e0 b0 L bs he hb hL hbs hg => by
    show ∃ T, runBody (Ln (n + 2)) 5 2 b13 [.ref e0, .ref b0] S = _
    exact law_answers_ok he hb hL hbs hg (fun S r m op a => n_lf n S r m op a)
theorem pure_law (ns : List Int) (h : ns.length ≤ 63) : ∃ S, prg.callN 8 14 [.scr ns] [] = .ok (.bl true) S := by
  show ∃ S, runBody (Ln 7) 10 1 b14 [.scr ns] [] = _
  exact law_ok (n_calW 4) ns h
end K70

set_option Elab.async false
set_option linter.all false
set_option maxRecDepth 100000
set_option maxHeartbeats 0
namespace K70
open PySem PySem.Spec L2 Bs
abbrev R : PySem.W.OpenRow := PySem.W.OpenLaw.row PySem.Challenge.rw_boundstone_k70_requests_and_answers
abbrev hk : PySem.W.Hook := He.hookD 4 fa fn
def ob (s : PySem.W.SharedT) : He.AlD := He.obsDG 4 fa fn (HandSHeadRun.getT s)
theorem ob_eq (s : PySem.W.SharedT) : ob s = hk.obs s.abs := He.obsDG_eq (HandSHeadRun.getT_eq s)
def loose : List PySem.Str := ["_page", "apply", "does_request", "request_fault", "page_fits", "answer_fault", "_law_cell", "_law_op", "_law_answer", "_law_change", "_law_event", "_law_fits", "_law_requests", "_law_answers"]
theorem run (w : World) : HandSHeadRun.RunEq R (PySem.W.view R.prog [17]) hk ob 600 loose w := by
  intro os
  kernel_rfl
end K70
open PySem PySem.W PySem.Calls PyProof.Rows
theorem K70.holds (pure_law : ∀ ns : List Int, ns.length ≤ 63 → ∃ S, K70.prg.callN 8 14 [.scr ns] [] = .ok (.bl true) S) : PySem.Challenge.rw_boundstone_k70_requests_and_answers.Holds := by
  w_on; o_law
  refine HandSHeadRun.head_any (r := OpenLaw.row PySem.Challenge.rw_boundstone_k70_requests_and_answers) (q := view (OpenLaw.row PySem.Challenge.rw_boundstone_k70_requests_and_answers).prog [17]) (H := K70.hk) (ob := K70.ob) (M := 600) (loose := K70.loose) (d := HandSHeadRun.topDef (OpenLaw.row PySem.Challenge.rw_boundstone_k70_requests_and_answers).prog 17) (kwd := []) K70.ob_eq
    (by kernel_rfl) (fun s => by kernel_rfl) K70.run (by kernel_rfl) (by kernel_rfl) (by kernel_rfl) (by rfl) (by first | assumption | decide +kernel) (by decide +kernel) ⟨rfl, rfl, rfl, rfl, rfl, by decide +kernel⟩ ?hw ?hc
  case hw => w_witness2
  case hc =>
    refine L2.walk_ofE (l := PySem.Challenge.rw_boundstone_k70_requests_and_answers) (n := 63) (k := 2 * 8) (x := "_law_script") (CX := L2.CX0) rfl (by decide) (by kernel_rfl) ⟨rfl, by decide, by decide⟩ ?F (fun _ _ _ _ z => z)
    intro w mg fa h Y G hmg0
    obtain ⟨K, KX, c⟩ := Y
    have hmg : mg ("law" : PySem.Str) = some (.ref fa) := by
      have e : (HandSHeadRun.topDef (OpenLaw.row PySem.Challenge.rw_boundstone_k70_requests_and_answers).prog 17).name = ("law" : PySem.Str) := by kernel_rfl
      rw [← e]
      exact hmg0
    have T := K70.top_ok KX G c
    obtain ⟨fa', fd, hm', A⟩ := T.fns 14 K70.d14 (by decide) rfl
    have e := hmg.symm.trans hm'
    cases e
    have b := L2.FunD.bindsA (ps := ["_law_script"]) A.fn fun _ _ _ _ _ _ us hl => match us, hl with | [_], _ => rfl
    exact ⟨K, fd, fun vs H Q _ => Bs.spLaw K70.prg (PySem.Challenge.rw_boundstone_k70_requests_and_answers).prog w K (fun _ => 0) 8 14 vs H Q fun _ _ _ => False, KX, fun s v => b s [v] rfl, fun H a ns hl _ hS => Bs.law_end (by decide) pure_law H a ns hl hS,
      fun base _ _ => Bs.law_ok0 (fun _ => 0) T K70.prg_ok rfl A rfl⟩


set_option maxHeartbeats 0
open PySem PySem.W PyProof.Rows
theorem PySem.Challenge.cw_boundstone_k70_requests_and_answers_holds : PySem.Challenge.rw_boundstone_k70_requests_and_answers.Holds := by
  exact K70.holds K70.pure_law

