import PyProof.Rows.All
import Wide.All
import OpenK.AllK
import Wide.FinOn
import HandS.ForMost
import HandS.ForExc
import HandS.ExcInit
import HandS.ExcField
import HandS.TupAny
import HandS.Style
import HandS.Flow
import HandS.DictComp
import HandS.IsInst
import HandS.Zip
import HandS.Rev
import HandS.More
import HandS.CallSlots
import HandS.NoneIn
import HandS.ReCall
import KE.DataEq
import KE.DataCmp
import KE.DataMinMax
import KE.SortData
import HandS.Strs
import HandS.Defaults
import HandS.Head0
import HandS.Head1
import HandS.Head2
import HandS.HeadEnd
import HandS.HeadHook1
import HandS.HeadHook2
import HandS.HeadHook3
import PySem.Challenge.RW_threegiven_k87_whole_room_greatest_lengt
set_option Elab.async false
set_option linter.all false
set_option maxRecDepth 100000
/-! Ev1: data D without addresses, stores, what a heap holds of them (Rep, Wld), steps. -/
namespace Ev
open PySem PySem.Spec PyProof.Rows L2

/-- data: lists of codes for texts; lst, dic: lists and dicts that nobody changes any more; loc: a list or dict of the store -/
inductive D where
  | non | bl (b : Bool) | int (i : Int) | str (s : List Nat)
  | tup (xs : List D) | lst (xs : List D) | dic (ks vs : List D) | loc (l : Nat)
  /-- a list that came from outside, read alone -/
  | ro (xs : List D)

instance : Inhabited D := ⟨.non⟩

/-- an object of the store -/
inductive Ob where
  | lst (xs : List D) | dic (ks vs : List D) | dead

abbrev Sto := List Ob
abbrev Loc := List (Option D)

def keyD : D → Option Key
  | .int i => some (.inl i)
  | .str s => some (.inr ⟨s.toArray⟩)
  | _ => none

/-- a dict that may be read and stays as it is -/
def FzD (H : Hp) (L : Addr → Prop) (a : Addr) (kvs : List (Key × V)) : Prop := H a = some (.dK kvs) ∧ ¬ L a
def FzL (H : Hp) (L : Addr → Prop) (a : Addr) (xs : List V) : Prop := H a = some (.lst xs) ∧ ¬ L a
def FzR (K : PySem.W.Frag) (H : Hp) (L : Addr → Prop) (a : Addr) (xs : List V) : Prop := (Rd H a (.lst xs) ∧ ¬ L a) ∨
    ∃ (o : Obj) (its : Array Value) (n : Nat), K.lookup a = some o ∧ o.cls = .type "list" ∧ o.dict = none ∧ o.data = .seq its n ∧ its.size ≤ sizeLine ∧ Vals xs its.toList
def FzT (K : PySem.W.Frag) (H : Hp) (L : Addr → Prop) (a : Addr) (xs : List V) : Prop :=
  (∃ o : Obj, (H a = some (.frz o (.tup xs)) ∧ o.dict = none) ∧ ¬ L a) ∨
    ∃ (o : Obj) (its : Array Value) (n : Nat), K.lookup a = some o ∧ o.cls = .type "tuple" ∧ o.dict = none ∧ o.data = .seq its n ∧ its.size ≤ sizeLine ∧ Vals xs its.toList

mutual
inductive Rep (K : PySem.W.Frag) (φ : List Addr) (L : Addr → Prop) (H : Hp) : D → V → Prop
  | non : Rep K φ L H .non .non
  | bl (b : Bool) : Rep K φ L H (.bl b) (.bl b)
  | int (i : Int) : Rep K φ L H (.int i) (.int i)
  | str (s : List Nat) : Rep K φ L H (.str s) (.str ⟨s.toArray⟩)
  | tup {ds : List D} {vs : List V} {a : Addr} : FzT K H L a vs → Reps K φ L H ds vs → Rep K φ L H (.tup ds) (.ref a)
  | lst {ds : List D} {vs : List V} {a : Addr} : FzL H L a vs → Reps K φ L H ds vs → Rep K φ L H (.lst ds) (.ref a)
  | dic {ks ds : List D} {ws : List Key} {vs : List V} {a : Addr} : FzD H L a (ws.zip vs) → ks.map keyD = ws.map some → Reps K φ L H ds vs → ws.length = vs.length → Rep K φ L H (.dic ks ds) (.ref a)
  | loc {l : Nat} {a : Addr} : φ[l]? = some a → Rep K φ L H (.loc l) (.ref a)
  | ro {ds : List D} {vs : List V} {a : Addr} : FzR K H L a vs → Reps K φ L H ds vs → Rep K φ L H (.ro ds) (.ref a)
inductive Reps (K : PySem.W.Frag) (φ : List Addr) (L : Addr → Prop) (H : Hp) : List D → List V → Prop
  | nil : Reps K φ L H [] []
  | cons {d : D} {v : V} {ds : List D} {vs : List V} : Rep K φ L H d v → Reps K φ L H ds vs → Reps K φ L H (d :: ds) (v :: vs)
end

/-- what must hold that all that stands for data goes on to do so -/
structure Kp (φ : List Addr) (L : Addr → Prop) (H : Hp) (φ' : List Addr) (L' : Addr → Prop) (H' : Hp) : Prop where
  pre : ∀ (l : Nat) (a : Addr), φ[l]? = some a → φ'[l]? = some a
  keep : ∀ a o, H a = some o → ¬ L a → H' a = some o ∧ ¬ L' a

section
variable {K : PySem.W.Frag} {φ φ' φ2 : List Addr} {L L' L2' : Addr → Prop} {H H' H2 : Hp}
theorem Kp.refl : Kp φ L H φ L H := ⟨fun _ _ h => h, fun _ _ h n => ⟨h, n⟩⟩
theorem Kp.trans (a : Kp φ L H φ' L' H') (b : Kp φ' L' H' φ2 L2' H2) : Kp φ L H φ2 L2' H2 :=
  ⟨fun l x h => b.pre l x (a.pre l x h), fun x o h n => by
    obtain ⟨h1, n1⟩ := a.keep x o h n
    exact b.keep x o h1 n1⟩
theorem Kp.rd (k : Kp φ L H φ' L' H') {a : Addr} {u : HO} (h : Rd H a u ∧ ¬ L a) : Rd H' a u ∧ ¬ L' a := by
  rcases h with ⟨h | ⟨o, h⟩, n⟩
  · obtain ⟨h1, n1⟩ := k.keep a _ h n
    exact ⟨.inl h1, n1⟩
  · obtain ⟨h1, n1⟩ := k.keep a _ h n
    exact ⟨.inr ⟨o, h1⟩, n1⟩
theorem FzL.keeps {a : Addr} {xs : List V} (k : Kp φ L H φ' L' H') (h : FzL H L a xs) : FzL H' L' a xs := k.keep _ _ h.1 h.2
theorem FzR.keeps {a : Addr} {xs : List V} (k : Kp φ L H φ' L' H') (h : FzR K H L a xs) : FzR K H' L' a xs := h.elim (fun h => .inl (k.rd h)) .inr
theorem FzT.keeps {a : Addr} {xs : List V} (k : Kp φ L H φ' L' H') (h : FzT K H L a xs) : FzT K H' L' a xs := by
  rcases h with ⟨o, ⟨h, hd⟩, n⟩ | h
  · obtain ⟨h1, n1⟩ := k.keep a _ h n
    exact .inl ⟨o, ⟨h1, hd⟩, n1⟩
  · exact .inr h
theorem FzL.sq {a : Addr} {xs : List V} (h : FzL H L a xs) : SqL K H a xs := .inl (.inl h.1)
theorem FzR.sq {a : Addr} {xs : List V} (h : FzR K H L a xs) : SqL K H a xs := h.elim (fun h => .inl h.1) .inr
theorem FzT.sq {a : Addr} {xs : List V} (h : FzT K H L a xs) : SqT K H a xs := by
  rcases h with ⟨o, ⟨h, hd⟩, n⟩ | ⟨o, its, n, h1, h2, h3, h4, h5⟩
  · exact .inl (.inr ⟨o, h⟩)
  · exact .inr ⟨o, its, n, h1, h2, h4, h5⟩
mutual
theorem Rep.keeps (k : Kp φ L H φ' L' H') : ∀ {d : D} {v : V}, Rep K φ L H d v → Rep K φ' L' H' d v
  | _, _, .non => .non
  | _, _, .bl b => .bl b
  | _, _, .int i => .int i
  | _, _, .str s => .str s
  | _, _, .tup h r => .tup (h.keeps k) (Reps.keeps k r)
  | _, _, .lst h r => .lst (h.keeps k) (Reps.keeps k r)
  | _, _, .dic h e r l => .dic (k.keep _ _ h.1 h.2) e (Reps.keeps k r) l
  | _, _, .loc h => .loc (k.pre _ _ h)
  | _, _, .ro h r => .ro (h.keeps k) (Reps.keeps k r)
theorem Reps.keeps (k : Kp φ L H φ' L' H') : ∀ {ds : List D} {vs : List V}, Reps K φ L H ds vs → Reps K φ' L' H' ds vs
  | _, _, .nil => .nil
  | _, _, .cons r t => .cons (Rep.keeps k r) (Reps.keeps k t)
end
end

section
variable {K : PySem.W.Frag} {φ : List Addr} {L : Addr → Prop} {H : Hp}
theorem Reps.length : ∀ {ds : List D} {vs : List V}, Reps K φ L H ds vs → ds.length = vs.length
  | _, _, .nil => rfl
  | _, _, .cons _ t => by rw [List.length_cons, List.length_cons, Reps.length t]
theorem Reps.append : ∀ {ds es : List D} {vs us : List V}, Reps K φ L H ds vs → Reps K φ L H es us → Reps K φ L H (ds ++ es) (vs ++ us)
  | _, _, _, _, .nil, h => h
  | _, _, _, _, .cons r t, h => .cons r (Reps.append t h)
theorem Reps.get : ∀ {ds : List D} {vs : List V} {i : Nat} {d : D}, Reps K φ L H ds vs → ds[i]? = some d → ∃ v, vs[i]? = some v ∧ Rep K φ L H d v
  | _, _, _, _, .nil, e => by simp at e
  | _, _, 0, _, .cons r _, e => by simp at e; subst e; exact ⟨_, rfl, r⟩
  | _, _, i + 1, d, .cons _ t, e => by
    obtain ⟨v, h1, h2⟩ := Reps.get (i := i) (d := d) t (by simpa using e)
    exact ⟨v, by simpa using h1, h2⟩
theorem Reps.getV : ∀ {ds : List D} {vs : List V} {i : Nat} {v : V}, Reps K φ L H ds vs → vs[i]? = some v → ∃ d, ds[i]? = some d ∧ Rep K φ L H d v
  | _, _, _, _, .nil, e => by simp at e
  | _, _, 0, _, .cons r _, e => by simp at e; subst e; exact ⟨_, rfl, r⟩
  | _, _, i + 1, v, .cons _ t, e => by
    obtain ⟨d, h1, h2⟩ := Reps.getV (i := i) (v := v) t (by simpa using e)
    exact ⟨d, by simpa using h1, h2⟩
theorem Reps.take : ∀ {ds : List D} {vs : List V} (n : Nat), Reps K φ L H ds vs → Reps K φ L H (ds.take n) (vs.take n)
  | _, _, 0, _ => .nil
  | _, _, _ + 1, .nil => .nil
  | _, _, n + 1, .cons r t => .cons r (Reps.take n t)
theorem Reps.drop : ∀ {ds : List D} {vs : List V} (n : Nat), Reps K φ L H ds vs → Reps K φ L H (ds.drop n) (vs.drop n)
  | _, _, 0, r => r
  | _, _, _ + 1, .nil => .nil
  | _, _, n + 1, .cons _ t => Reps.drop n t
theorem Reps.set {d : D} {v : V} (r : Rep K φ L H d v) : ∀ {ds : List D} {vs : List V} (i : Nat), Reps K φ L H ds vs → Reps K φ L H (ds.set i d) (vs.set i v)
  | _, _, _, .nil => .nil
  | _, _, 0, .cons _ t => .cons r t
  | _, _, i + 1, .cons q t => .cons q (Reps.set r i t)
theorem Reps.reverse : ∀ {ds : List D} {vs : List V}, Reps K φ L H ds vs → Reps K φ L H ds.reverse vs.reverse
  | _, _, .nil => .nil
  | _, _, .cons r t => by
    rw [List.reverse_cons, List.reverse_cons]
    exact (Reps.reverse t).append (.cons r .nil)
theorem Reps.dropLast : ∀ {ds : List D} {vs : List V}, Reps K φ L H ds vs → Reps K φ L H ds.dropLast vs.dropLast := fun {ds vs} r => by
  rw [List.dropLast_eq_take, List.dropLast_eq_take, r.length]
  exact r.take _
theorem Reps.snoc {d : D} {v : V} {ds : List D} {vs : List V} (r : Reps K φ L H ds vs) (q : Rep K φ L H d v) : Reps K φ L H (ds ++ [d]) (vs ++ [v]) := r.append (.cons q .nil)
end

/-- an address of the store that lives -/
def live (φ : List Addr) (S : Sto) (a : Addr) : Prop := ∃ (l : Nat) (o : Ob), φ[l]? = some a ∧ S[l]? = some o ∧ o ≠ Ob.dead
def LB (φ : List Addr) (S : Sto) (B : Addr → Prop) (a : Addr) : Prop := live φ S a ∨ B a

inductive RepO (K : PySem.W.Frag) (φ : List Addr) (L : Addr → Prop) (H : Hp) : Ob → HO → Prop
  | lst {ds : List D} {vs : List V} : Reps K φ L H ds vs → RepO K φ L H (.lst ds) (.lst vs)
  | dic {ks ds : List D} {ws : List Key} {vs : List V} : ks.map keyD = ws.map some → Reps K φ L H ds vs → ws.length = vs.length → RepO K φ L H (.dic ks ds) (.dK (ws.zip vs))

/-- the abstract heap holds the store; B: lists that are being built -/
structure Wld (K : PySem.W.Frag) (φ : List Addr) (S : Sto) (H : Hp) (B : Addr → Prop) : Prop where
  len : φ.length = S.length
  nd : φ.Nodup
  ob : ∀ (l : Nat) (o : Ob), S[l]? = some o → o ≠ Ob.dead → ∃ a ho, φ[l]? = some a ∧ H a = some ho ∧ RepO K φ (LB φ S B) H o ho
  bt : ∀ a, B a → ∃ o, H a = some o
  bn : ∀ a, B a → a ∉ φ
  ft : ∀ a, a ∈ φ → ∃ o, H a = some o

/-- from one world to a later one -/
structure Stp (φ : List Addr) (S : Sto) (H : Hp) (φ' : List Addr) (S' : Sto) (H' : Hp) : Prop where
  pre : ∀ (l : Nat) (a : Addr), φ[l]? = some a → φ'[l]? = some a
  keep : ∀ a o, H a = some o → ¬ live φ S a → H' a = some o ∧ ¬ live φ' S' a
  more : ∀ a o, H a = some o → ∃ o', H' a = some o'

section
variable {K : PySem.W.Frag} {φ φ' φ2 : List Addr} {S S' S2 : Sto} {H H' H2 : Hp} {B : Addr → Prop}
theorem Stp.refl : Stp φ S H φ S H := ⟨fun _ _ h => h, fun _ _ h n => ⟨h, n⟩, fun _ o h => ⟨o, h⟩⟩
theorem Stp.trans (a : Stp φ S H φ' S' H') (b : Stp φ' S' H' φ2 S2 H2) : Stp φ S H φ2 S2 H2 :=
  ⟨fun l x h => b.pre l x (a.pre l x h), fun x o h n => by
    obtain ⟨h1, n1⟩ := a.keep x o h n
    exact b.keep x o h1 n1, fun x o h => by
    obtain ⟨o', h1⟩ := a.more x o h
    exact b.more x o' h1⟩
theorem Stp.keeps (a : Stp φ S H φ' S' H') : Kp φ (LB φ S B) H φ' (LB φ' S' B) H' :=
  ⟨a.pre, fun x o h n => by
    obtain ⟨h1, n1⟩ := a.keep x o h fun z => n (.inl z)
    exact ⟨h1, fun z => z.elim n1 fun z => n (.inr z)⟩⟩
theorem Rep.step {d : D} {v : V} (a : Stp φ S H φ' S' H') (r : Rep K φ (LB φ S B) H d v) : Rep K φ' (LB φ' S' B) H' d v := r.keeps a.keeps
theorem Reps.step {d : List D} {v : List V} (a : Stp φ S H φ' S' H') (r : Reps K φ (LB φ S B) H d v) : Reps K φ' (LB φ' S' B) H' d v := r.keeps a.keeps
theorem Wld.liveB (W : Wld K φ S H B) {a : Addr} (h : LB φ S B a) : ∃ o, H a = some o := by
  rcases h with ⟨l, o, h1, _, _⟩ | h
  · exact W.ft a (List.mem_of_getElem? h1)
  · exact W.bt a h
theorem Wld.freshL (W : Wld K φ S H B) {p : Addr} (h : H p = none) : ¬ LB φ S B p := fun z => by
  obtain ⟨o, e⟩ := W.liveB z
  rw [h] at e; cases e
theorem Wld.freshφ (W : Wld K φ S H B) {p : Addr} (h : H p = none) : p ∉ φ := fun z => by
  obtain ⟨o, e⟩ := W.ft p z
  rw [h] at e; cases e
/-- a new thing of the heap that is not in the store -/
theorem Stp.upd {p : Addr} {o : HO} (h : H p = none) : Stp φ S H φ S (upd H p o) :=
  ⟨fun _ _ h => h, fun a u e n => ⟨by rw [upd_ne (ne_of_none e h)]; exact e, n⟩, fun a u e => ⟨u, by rw [upd_ne (ne_of_none e h)]; exact e⟩⟩
theorem RepO.step {o : Ob} {ho : HO} (a : Kp φ (LB φ S B) H φ' (LB φ' S' B) H') (r : RepO K φ (LB φ S B) H o ho) : RepO K φ' (LB φ' S' B) H' o ho := by
  cases r with
  | lst r => exact .lst (r.keeps a)
  | dic e r l => exact .dic e (r.keeps a) l
theorem Wld.upd (W : Wld K φ S H B) {p : Addr} {o : HO} (h : H p = none) : Wld K φ S (upd H p o) B :=
  ⟨W.len, W.nd, fun l ob e n => by
    obtain ⟨a, ho, h1, h2, h3⟩ := W.ob l ob e n
    exact ⟨a, ho, h1, by rw [upd_ne (ne_of_none h2 h)]; exact h2, h3.step (Stp.upd h).keeps⟩, fun a z => by
    obtain ⟨u, e⟩ := W.bt a z
    exact ⟨u, by rw [upd_ne (ne_of_none e h)]; exact e⟩, W.bn, fun a z => by
    obtain ⟨u, e⟩ := W.ft a z
    exact ⟨u, by rw [upd_ne (ne_of_none e h)]; exact e⟩⟩
/-- a new tuple -/
theorem Rep.newTup (W : Wld K φ S H B) {ds : List D} {vs : List V} {p : Addr} {o : Obj} (r : Reps K φ (LB φ S B) H ds vs) (h : H p = none) (hd : o.dict = none) : Rep K φ (LB φ S B) (upd H p (.frz o (.tup vs))) (.tup ds) (.ref p) :=
  .tup (.inl ⟨o, ⟨upd_same, hd⟩, W.freshL h⟩) (r.step (Stp.upd h))
/-- a new list that nobody changes -/
theorem Rep.newLst (W : Wld K φ S H B) {ds : List D} {vs : List V} {p : Addr} (r : Reps K φ (LB φ S B) H ds vs) (h : H p = none) : Rep K φ (LB φ S B) (upd H p (.lst vs)) (.lst ds) (.ref p) :=
  .lst ⟨upd_same, W.freshL h⟩ (r.step (Stp.upd h))
theorem get_snoc {α : Type} {l : List α} {x y : α} {i : Nat} (h : (l ++ [x])[i]? = some y) : (l[i]? = some y) ∨ (i = l.length ∧ x = y) := by
  by_cases hi : i < l.length
  · rw [List.getElem?_append_left hi] at h; exact .inl h
  · rw [List.getElem?_append_right (by omega)] at h
    by_cases h0 : i - l.length = 0
    · rw [h0] at h; exact .inr ⟨by omega, by simpa using h⟩
    · obtain ⟨k, hk⟩ : ∃ k, i - l.length = k + 1 := ⟨i - l.length - 1, by omega⟩
      rw [hk] at h; simp at h
theorem get_snoc_l {α : Type} {l : List α} {x y : α} {i : Nat} (h : l[i]? = some y) : (l ++ [x])[i]? = some y := by
  rw [List.getElem?_append_left (List.getElem?_eq_some_iff.mp h).1]; exact h
theorem get_snoc_r {α : Type} {l : List α} {x : α} : (l ++ [x])[l.length]? = some x := by simp
theorem live_snoc (hl : φ.length = S.length) {p : Addr} {o : Ob} (a : Addr) : live (φ ++ [p]) (S ++ [o]) a ↔ live φ S a ∨ (a = p ∧ o ≠ Ob.dead) := by
  constructor
  · rintro ⟨l, u, h1, h2, h3⟩
    rcases get_snoc h1 with h1 | ⟨h1, e1⟩
    · rcases get_snoc h2 with h2 | ⟨h2, e2⟩
      · exact .inl ⟨l, u, h1, h2, h3⟩
      · have := (List.getElem?_eq_some_iff.mp h1).1
        omega
    · rcases get_snoc h2 with h2 | ⟨h2, e2⟩
      · have := (List.getElem?_eq_some_iff.mp h2).1
        omega
      · exact .inr ⟨e1.symm, e2 ▸ h3⟩
  · rintro (⟨l, u, h1, h2, h3⟩ | ⟨rfl, h⟩)
    · exact ⟨l, u, get_snoc_l h1, get_snoc_l h2, h3⟩
    · exact ⟨φ.length, o, get_snoc_r, by rw [hl]; exact get_snoc_r, h⟩
/-- a new thing of the store -/
theorem Stp.newLoc (hl : φ.length = S.length) {p : Addr} {o : HO} {ob : Ob} (h : H p = none) : Stp φ S H (φ ++ [p]) (S ++ [ob]) (L2.upd H p o) :=
  ⟨fun _ _ h => get_snoc_l h, fun a u e n => by
    have ne := ne_of_none e h
    exact ⟨by rw [upd_ne ne]; exact e, fun z => ((live_snoc hl a).mp z).elim n fun z => ne z.1⟩, fun a u e => ⟨u, by rw [upd_ne (ne_of_none e h)]; exact e⟩⟩
theorem Wld.newLoc (W : Wld K φ S H B) {p : Addr} {ob : Ob} {ho : HO} (h : H p = none) (r : RepO K φ (LB φ S B) H ob ho) : Wld K (φ ++ [p]) (S ++ [ob]) (L2.upd H p ho) B := by
  have st : Stp φ S H (φ ++ [p]) (S ++ [ob]) (L2.upd H p ho) := Stp.newLoc W.len h
  refine ⟨by simp [W.len], ?_, fun l u e n => ?_, fun a z => ?_, fun a z m => ?_, fun a m => ?_⟩
  · rw [List.nodup_append]
    exact ⟨W.nd, by simp, fun a ha b hb => by
      have : b = p := by simpa using hb
      subst this
      rintro rfl
      exact W.freshφ h ha⟩
  · rcases get_snoc e with e | ⟨e1, e2⟩
    · obtain ⟨a, hu, h1, h2, h3⟩ := W.ob l u e n
      exact ⟨a, hu, get_snoc_l h1, by rw [upd_ne (ne_of_none h2 h)]; exact h2, h3.step st.keeps⟩
    · subst e2
      exact ⟨p, ho, by rw [e1, ← W.len]; exact get_snoc_r, upd_same, r.step st.keeps⟩
  · obtain ⟨u, e⟩ := W.bt a z
    exact st.more a u e
  · rcases List.mem_append.mp m with m | m
    · exact W.bn a z m
    · have : a = p := by simpa using m
      subst this
      obtain ⟨u, e⟩ := W.bt a z
      rw [h] at e; cases e
  · rcases List.mem_append.mp m with m | m
    · obtain ⟨u, e⟩ := W.ft a m
      exact st.more a u e
    · have : a = p := by simpa using m
      subst this
      exact ⟨ho, upd_same⟩
end

/-! ### new tuples, their objects known -/
section
variable {X : Cx} {pos : Pos} {es : List Expr} {t : TA}
def QT (Q : VK) (H : Hp) (xs : List V) : Prop := ∀ p o, H p = none → o.dict = none → Q (.ref p) (L2.upd H p (.frz o (.tup xs)))
theorem laid_tup {pins : List (Addr × Obj)} {σ : L2.St} {H : Hp} {s : Shared} {Q : VK} {h' : Heap} {tk : Nat} {xs : List V} {its : List Value} {o : Obj} (I : Inv X pins σ H s) (k : ∀ b u, s.heap.get? b = some u → h'.get? b = some u) {p : Addr} (hp : s.heap.objs.size ≤ p)
    (r : Vals xs its) (hz : xs.length ≤ sizeLine) (ho : h'.get? p = some o) (hc : o.cls = .type "tuple") (hd : o.dict = none) (n : Nat) (hdat : o.data = .seq its.toArray n) (q : QT Q H xs) : EP X pins σ Q (.ref p) { s with heap := h', toks := tk } :=
  ⟨.ref p, _, I.laid (t' := tk) (o := .frz o (.tup xs)) k hp ⟨ho, hz, its, r, ⟨o, ho, hc, n, hdat⟩⟩, rfl, q p o (I.hok.fresh hp) hd⟩
def tTupF (t : TA) : TE := fun σ H Q => t σ H fun xs H1 => xs.length ≤ sizeLine ∧ QT Q H1 xs
theorem pe_tupF {x1} (h : PA X es t) : PE X (.Tuple es x1 pos) (tTupF t) := by
  refine ⟨fun pins s σ H Q I hq => ?_⟩
  refine wpAny_Tuple_spliced (thn (h.run pos pins s σ H _ I hq) fun us s1 ⟨xs, H1, I1, r, z, q⟩ => ⟨by rw [← r.length]; exact z, ?_⟩)
  exact laid_tup (tk := s1.toks) I1 (fun b u e => Heap.get?_push_of_some _ e) (Nat.le_refl _) r z (Heap.get?_push_size _ rfl) rfl rfl 0 rfl q
def rCatF (K : PySem.W.Frag) : R2 := fun x y H Q => ∃ a b xs ys, x = .ref a ∧ y = .ref b ∧ SqT K H a xs ∧ SqT K H b ys ∧ xs.length + ys.length ≤ sizeLine ∧
  (xs = [] → Q (.ref b) H) ∧ (xs ≠ [] → ys = [] → Q (.ref a) H) ∧ (xs ≠ [] → ys ≠ [] → QT Q H (xs ++ ys))
theorem op_catF : OpR X (binaryOp .Add) (rCatF X.K) := by
  intro pins s σ H x y v u Q I rx ry h
  obtain ⟨a, b, xs, ys, rfl, rfl, ha, hb, hz, q0, q1, q2⟩ := h
  by_cases hx : xs = []
  · subst hx
    cases rx
    cases ry
    obtain ⟨its, r1, p1, _⟩ := I.tuple ha
    obtain ⟨its2, r2, p2, _⟩ := I.tuple hb
    cases r1
    exact cat_tup0 p1 p2 ⟨.ref b, H, I, rfl, q0 rfl⟩
  · cases rx
    cases ry
    obtain ⟨its, r1, p1, _⟩ := I.tuple ha
    obtain ⟨its2, r2, p2, _⟩ := I.tuple hb
    refine HT.cat_tup p1 p2 (fun z => hx (r1.nil_iff.mp z)) (fun z => ⟨.ref a, H, I, rfl, q1 hx (r2.nil_iff.mp z)⟩) (fun z => ?_) (by rw [← r1.length, ← r2.length]; exact hz)
    exact laid_tup (tk := s.toks) I (fun b ob q => Heap.get?_push_of_some _ q) (Nat.le_refl _) (r1.append r2) (by rw [List.length_append]; exact hz) (Heap.get?_push_size _ rfl) rfl rfl 0 rfl (q2 hx fun w => z (r2.nil_iff.mpr w))
def rSlF (K : PySem.W.Frag) : V → Option Int → Option Int → Hp → VK → Prop := fun x lo hi H Q => ∃ a xs, x = .ref a ∧ SqT K H a xs ∧
  (HT.sIx xs.length 0 lo = 0 ∧ HT.sIx xs.length xs.length hi = xs.length → Q (.ref a) H) ∧ (¬ (HT.sIx xs.length 0 lo = 0 ∧ HT.sIx xs.length xs.length hi = xs.length) → QT Q H (cutV xs lo hi))
theorem sl_tupF : SlR X (rSlF X.K) := by
  intro pins s σ H x v vl vu lo hi sl Q I rx hs pl pu h
  obtain ⟨a, xs, rfl, hx, q1, q2⟩ := h
  cases rx
  obtain ⟨its, r, ht, hz⟩ := I.tuple hx
  have hlen : its.toArray.size = xs.length := by rw [List.size_toArray]; exact r.length.symm
  refine ⟨"tuple", _, PyProof.Rows.slot_tuple_getitem.lookup, ht.typeIs, ?_⟩
  by_cases hw : HT.sIx xs.length 0 lo = 0 ∧ HT.sIx xs.length xs.length hi = xs.length
  · exact getItem_tuple_whole ht hs pl pu (by rw [hlen]; exact hw) ⟨.ref a, H, I, rfl, q1 hw⟩
  · refine HT.getItem_tuple_cut ht hs pl pu (by rw [hlen]; exact hw) ?_ (by rw [hlen]; exact hz)
    rw [hlen]
    exact laid_tup (tk := s.toks) I (fun b ob q => Heap.get?_push_of_some _ q) (Nat.le_refl _) ((r.drop (HT.sIx xs.length 0 lo)).take (HT.sIx xs.length xs.length hi - HT.sIx xs.length 0 lo)) (Nat.le_trans (cutV_length xs lo hi) hz) (Heap.get?_push_size _ rfl) rfl rfl 0 rfl (q2 hw)
theorem call_tupleF : CallR X (.type "tuple") (fun xs H Q => ∃ p ys, xs = [.ref p] ∧ ((SqL X.K H p ys ∧ QT Q H ys) ∨ (SqT X.K H p ys ∧ Q (.ref p) H))) := by
  intro pins s σ H xs us Q I r h
  obtain ⟨p, ys, rfl, h⟩ := h
  obtain ⟨u, rfl, rx⟩ := vals1 r
  cases rx
  rcases h with ⟨hq, q⟩ | ⟨hq, q⟩
  · obtain ⟨its, r', pl, hz⟩ := I.list hq
    have hlen := r'.length
    refine call_tuple_list pl.isList (fun h' kp => ?_) (by simp only [List.size_toArray] <;> omega)
    have I1 : Inv X pins σ H { s with heap := h' } := I.kept (t' := s.toks) kp
    exact laid_tup (s := { s with heap := h' }) (tk := s.toks) I1 (fun b o e => Heap.get?_push_of_some _ e) (Nat.le_refl _) r' hz (Heap.get?_push_size _ rfl) rfl rfl 0 rfl q
  · obtain ⟨its, r', pl, hz⟩ := I.tuple hq
    exact call_tuple_same pl ⟨.ref p, H, I, rfl, q⟩
end
end Ev
/-! Ev2: the compact program text and its evaluator over data and stores. -/
namespace Ev
open PySem L2

inductive Res (α : Type) where
  | ok (a : α) (S : Sto) | exc (c : String) (fs : List (String × D)) (S : Sto) | bad
def Res.bd {α β : Type} (r : Res α) (f : α → Sto → Res β) : Res β := match r with
  | .ok a S => f a S
  | .exc c fs S => .exc c fs S
  | .bad => .bad
/-- no error comes out -/
def Res.nox {α : Type} (r : Res α) : Res α := match r with
  | .exc _ _ _ => .bad
  | r => r
@[simp] theorem Res.nox_ok {α : Type} (a : α) (S : Sto) : (Res.ok a S).nox = .ok a S := rfl
@[simp] theorem Res.nox_exc {α : Type} (c : String) (fs : List (String × D)) (S : Sto) : (Res.exc c fs S : Res α).nox = .bad := rfl
@[simp] theorem Res.nox_bad {α : Type} : (Res.bad : Res α).nox = .bad := rfl
@[simp] theorem Res.bd_ok {α β : Type} (a : α) (S : Sto) (f : α → Sto → Res β) : (Res.ok a S).bd f = f a S := rfl
@[simp] theorem Res.bd_exc {α β : Type} (c : String) (fs : List (String × D)) (S : Sto) (f : α → Sto → Res β) : (Res.exc c fs S : Res α).bd f = .exc c fs S := rfl
@[simp] theorem Res.bd_bad {α β : Type} (f : α → Sto → Res β) : (Res.bad : Res α).bd f = .bad := rfl
theorem Res.bd_congr {α β : Type} {r r' : Res α} {f : α → Sto → Res β} (h : r = r') : r.bd f = r'.bd f := by rw [h]
def ofO {α : Type} (S : Sto) : Option α → Res α
  | some a => .ok a S
  | none => .bad
@[simp] theorem ofO_some {α : Type} (S : Sto) (a : α) : ofO S (some a) = .ok a S := rfl
@[simp] theorem ofO_none {α : Type} (S : Sto) : ofO S (none : Option α) = .bad := rfl
/-- r where p holds, else nothing -/
noncomputable def gd {α : Type} (p : Prop) (r : Res α) : Res α := open Classical in if p then r else .bad
theorem gd_pos {α : Type} {p : Prop} {r : Res α} (h : p) : gd p r = r := by unfold gd; rw [if_pos h]
theorem gd_neg {α : Type} {p : Prop} {r : Res α} (h : ¬ p) : gd p r = .bad := by unfold gd; rw [if_neg h]

/-! ### data -/
mutual
def D.pur : D → Bool
  | .non => true | .bl _ => true | .int _ => true | .str _ => true
  | .tup xs => purs xs
  | .lst xs => purs xs
  | .dic _ _ => false
  | .loc _ => false
  | .ro _ => false
def purs : List D → Bool
  | [] => true
  | x :: xs => x.pur && purs xs
end
mutual
def D.toPy : D → PyData
  | .non => .none | .bl b => .bool b | .int i => .int i | .str s => .str ⟨s.toArray⟩
  | .tup xs => .tuple (toPys xs)
  | .lst xs => .list (toPys xs)
  | .dic _ _ => .none
  | .loc _ => .none
  | .ro _ => .none
def toPys : List D → List PyData
  | [] => []
  | x :: xs => x.toPy :: toPys xs
end
mutual
/-- Python's == of data -/
def deqv : D → D → Bool
  | .non, .non => true
  | .bl a, .bl b => a == b
  | .bl a, .int j => (if a then 1 else 0) == j
  | .int i, .bl b => i == (if b then 1 else 0)
  | .int i, .int j => i == j
  | .str s, .str t => s == t
  | .lst xs, .lst ys => deqvs xs ys
  | .tup xs, .tup ys => deqvs xs ys
  | _, _ => false
def deqvs : List D → List D → Bool
  | [], [] => true
  | x :: xs, y :: ys => deqv x y && deqvs xs ys
  | _, _ => false
end
mutual
def D.dep : D → Nat
  | .tup xs => deps xs + 1
  | .lst xs => deps xs + 1
  | _ => 0
def deps : List D → Nat
  | [] => 0
  | x :: xs => max x.dep (deps xs)
end
def drf (S : Sto) : D → D
  | .loc l => match S[l]? with
    | some (.lst xs) => .lst xs
    | some (.dic ks vs) => .dic ks vs
    | _ => .loc l
  | d => d
/-- a list's or tuple's items -/
def seqD (S : Sto) (d : D) : Option (List D) := match drf S d with
  | .lst xs => some xs
  | .tup xs => some xs
  | .ro xs => some xs
  | _ => none
def truD (S : Sto) (d : D) : Option Bool := match drf S d with
  | .non => some false
  | .bl b => some b
  | .int i => some (i != 0)
  | .str s => if s.length ≤ 16777216 then some (!s.isEmpty) else none
  | .lst xs => some (!xs.isEmpty)
  | .tup xs => some (!xs.isEmpty)
  | .dic ks _ => some (!ks.isEmpty)
  | .ro xs => some (!xs.isEmpty)
  | .loc _ => none
/-- the values that == tells apart at once -/
def scE : D → D → Option Bool
  | .non, .non => some true
  | .non, .int _ => some false | .int _, .non => some false
  | .non, .bl _ => some false | .bl _, .non => some false
  | .non, .str _ => some false | .str _, .non => some false
  | .int i, .int j => some (decide (i = j))
  | .bl a, .bl b => some (decide (a = b))
  | .str s, .str t => some (decide (s = t))
  | .int _, .str _ => some false | .str _, .int _ => some false
  | .bl _, .str _ => some false | .str _, .bl _ => some false
  | _, _ => none
def eqD (S : Sto) (a b : D) : Option Bool := match scE a b with
  | some r => some r
  | none => if (drf S a).pur && (drf S b).pur && decide ((drf S a).dep ≤ 100) then some (deqv (drf S a) (drf S b)) else none
def isNon : D → Bool
  | .non => true
  | _ => false
def sameK : D → D → Bool
  | .int i, .int j => decide (i = j)
  | .str s, .str t => decide (s = t)
  | _, _ => false
def isK : D → Bool
  | .int _ => true
  | .str _ => true
  | _ => false
def look : List D → List D → D → Option D
  | k :: ks, v :: vs, x => if sameK k x then some v else look ks vs x
  | _, _, _ => none
/-- the values behind d[k] = v -/
def repV : List D → List D → D → D → List D
  | k :: ks, v :: vs, x, y => (if sameK k x then y else v) :: repV ks vs x y
  | _, _, _, _ => []
def putV (ks vs : List D) (x y : D) : List D × List D := if (ks.any fun k => sameK k x) = true then (ks, repV ks vs x y) else (ks ++ [x], vs ++ [y])
def inD (S : Sto) (x c : D) : Option Bool := match drf S c with
  | .str z => (match x with
    | .str [s] => some (decide (s ∈ z))
    | _ => none)
  | .lst xs => if x.pur && purs xs && decide (x.dep ≤ 100) then some (xs.any fun y => deqv y x) else none
  | .tup xs => if x.pur && purs xs && decide (x.dep ≤ 100) then some (xs.any fun y => deqv y x) else none
  | .dic ks vs => if isK x then some ((look ks vs x).isSome) else none
  | _ => none
def cmpD (op : CmpOp) (S : Sto) (a b : D) : Option D := match op with
  | .Eq => (eqD S a b).map .bl
  | .NotEq => (eqD S a b).map fun r => .bl (!r)
  | .Is => (match b with
    | .non => some (.bl (isNon a))
    | .bl y => (match a with
      | .bl x => some (.bl (decide (x = y)))
      | _ => none)
    | _ => none)
  | .IsNot => (match b with
    | .non => some (.bl (!isNon a))
    | .bl y => (match a with
      | .bl x => some (.bl (!decide (x = y)))
      | _ => none)
    | _ => none)
  | .In => (inD S a b).map .bl
  | .NotIn => (inD S a b).map fun r => .bl (!r)
  | .Lt => (match a, b with
    | .int i, .int j => some (.bl (decide (i < j)))
    | .str s, .str t => some (.bl (decide (s < t)))
    | _, _ => none)
  | .LtE => (match a, b with
    | .int i, .int j => some (.bl (decide (i ≤ j)))
    | .str s, .str t => some (.bl (!decide (t < s)))
    | _, _ => none)
  | .Gt => (match a, b with
    | .int i, .int j => some (.bl (decide (j < i)))
    | .str s, .str t => some (.bl (decide (t < s)))
    | _, _ => none)
  | .GtE => (match a, b with
    | .int i, .int j => some (.bl (decide (j ≤ i)))
    | .str s, .str t => some (.bl (!decide (s < t)))
    | _, _ => none)
def mulOk (i j : Int) : Bool := (decide (-(2 ^ 64) < i) && decide (i < 2 ^ 64)) || (decide (-(2 ^ 64) < j) && decide (j < 2 ^ 64))
def binD (op : Operator) (S : Sto) (a b : D) : Option D := match op with
  | .Add => (match drf S a, drf S b with
    | .int i, .int j => some (.int (i + j))
    | .str s, .str t => if s.length + t.length ≤ 16777216 then some (.str (s ++ t)) else none
    | .tup xs, .tup ys => if xs.length + ys.length ≤ 16777216 then some (.tup (xs ++ ys)) else none
    | .lst xs, .lst ys => if xs.length + ys.length ≤ 16777216 then some (.lst (xs ++ ys)) else none
    | _, _ => none)
  | .Sub => (match a, b with
    | .int i, .int j => some (.int (i - j))
    | _, _ => none)
  | .Mult => (match a, b with
    | .int i, .int j => if mulOk i j then some (.int (i * j)) else none
    | .str s, .int k => if 0 ≤ k ∧ k ≤ 100000 ∧ s.length * k.toNat ≤ 16777216 then some (.str (List.replicate k.toNat s).flatten) else none
    | _, _ => none)
  | .FloorDiv => (match a, b with
    | .int i, .int j => if 0 < j ∧ j < 1073741824 then some (.int (i / j)) else none
    | _, _ => none)
  | .Mod => (match a, b with
    | .int i, .int j => if 0 < j then some (.int (i % j)) else none
    | _, _ => none)
  | .Pow => (match a, b with
    | .int i, .int j => if 0 ≤ j ∧ j ≤ 1000000 ∧ i.natAbs < 2 ^ 64 then some (.int (i ^ j.toNat)) else none
    | _, _ => none)
  | .LShift => (match a, b with
    | .int i, .int j => if 0 ≤ j ∧ j ≤ 1000000 ∧ i.natAbs < 2 ^ 64 then some (.int (i * 2 ^ j.toNat)) else none
    | _, _ => none)
  | _ => none
def idxD (S : Sto) (a b : D) : Option D := match drf S a with
  | .lst xs => (match b with
    | .int i => atI xs i
    | _ => none)
  | .tup xs => (match b with
    | .int i => atI xs i
    | _ => none)
  | .ro xs => (match b with
    | .int i => atI xs i
    | _ => none)
  | .str s => (match b with
    | .int i => if s.length ≤ 16777216 then (atI s i).map fun c => .str [c] else none
    | _ => none)
  | .dic ks vs => look ks vs b
  | _ => none
def cutG {α : Type} (xs : List α) (lo hi : Option Int) : List α := (xs.drop (HT.sIx xs.length 0 lo)).take (HT.sIx xs.length xs.length hi - HT.sIx xs.length 0 lo)
def slcD (S : Sto) (a : D) (lo hi : Option Int) : Option D := match drf S a with
  | .lst xs => some (.lst (cutG xs lo hi))
  | .ro xs => some (.lst (cutG xs lo hi))
  | .tup xs => some (.tup (cutG xs lo hi))
  | .str s => if s.length ≤ 16777216 then some (.str (cutG s lo hi)) else none
  | _ => none
def isiD (S : Sto) (d : D) (T : String) : Option Bool := match drf S d with
  | .non => some false
  | .bl _ => some (T == "bool" || T == "int")
  | .int _ => some (T == "int")
  | .str _ => some (T == "str")
  | .tup _ => some (T == "tuple")
  | .lst _ => some (T == "list")
  | .ro _ => some (T == "list")
  | .dic _ _ => some (T == "dict")
  | .loc _ => none

/-! ### the compact text -/
inductive Bt where
  | len | tuple | list | sum | max1 | min1 | max2 | min2 | any | all | int1 | str1 | sorted | dict1 | abs
  deriving DecidableEq
inductive Mt where
  | append | extend | pop | get1 | get2 | index | join | startswith | endswith
  deriving DecidableEq
mutual
inductive Tg where
  | one (i : Nat) | tup (ts : Tgs)
inductive Tgs where
  | nil | cons (t : Tg) (ts : Tgs)
end
mutual
inductive CE where
  | var (i : Nat) | con (d : D) | glb (x : String)
  | tup (es : CL) | lst (es : CL) | dsp (ks : List D) (vs : CL) | live (e : CE)
  | bin (op : Operator) (a b : CE) | neg (a : CE) | nt (a : CE) | cmp (op : CmpOp) (a b : CE) | chn (o1 o2 : CmpOp) (a b c : CE)
  | and (es : CL) | or (es : CL) | ite (c a b : CE)
  | idx (a b : CE) | slc (a : CE) (lo hi : CO) | rev (a : CE)
  | cal (f : String) (es : CL) | calk (f : String) (ks : List String) (vs : CL)
  | isi (e : CE) (T : String) | blt (f : Bt) (es : CL) | mth (m : Mt) (o : CE) (es : CL)
  | comp (own : List Nat) (tg : Tg) (it : CI) (ifs : CO) (elt : CE)
  | dcmp (own : List Nat) (tg : Tg) (it : CI) (ifs : CO) (k v : CE)
  | exf (i : Nat) (f : String)
  | gix (x : String) (e : CE) | gin (x : String) (e : CE) | gni (x : String) (e : CE) | any
inductive CL where
  | nil | cons (e : CE) (es : CL)
inductive CO where
  | no | so (e : CE)
inductive CI where
  | seq (e : CE) | rng1 (a : CE) | rng2 (a b : CE) | rng3 (a b c : CE) | enu (e : CE) | zip (a b : CE) | rvs (e : CE)
end
mutual
inductive CS where
  | expr (e : CE) | set (tg : Tg) (e : CE) | par (is : List Nat) (es : CL)
  | put (o k v : CE) | aug (i : Nat) (op : Operator) (e : CE) | augs (o k : CE) (op : Operator) (e : CE)
  | ifs (c : CE) (a b : CB) | whl (c : CE) (b : CB) | for_ (tg : Tg) (it : CI) (b : CB)
  | ret (e : CE) | retn | brk | cnt | pas | any
  | rai (c : String) (es : CL) | tryr (b : CB) (c : String) (i : Nat) (es : CL)
inductive CB where
  | nil | cons (s : CS) (b : CB)
end

/-! ### the evaluator -/
structure Cxt where
  cal : String → List D → Sto → Res D
  glb : String → Option D
  gdc : String → Option (List D × List D)   -- dicts of constants
  kws : String → List String → Option (List Nat)   -- where each parameter's value stands in a call by keywords alone
  fld : String → List String        -- the fields of an error
  sub : String → String → Bool      -- is an error of the one class of the other
  fuel : Nat
noncomputable section
def fin (t : Bool) (r : Res D) : Res D := if t = true then r.bd fun d S => ofO S ((truD S d).map .bl) else r
@[simp] theorem fin_f (r : Res D) : fin false r = r := by simp [fin]
@[simp] theorem fin_t (r : Res D) : fin true r = r.bd fun d S => ofO S ((truD S d).map .bl) := by simp [fin]
def asIn : D → Option Int
  | .int i => some i
  | _ => none
def asBl : D → Option Bool
  | .bl b => some b
  | _ => none
mutual
def asg : Tg → D → Loc → Option Loc
  | .one i, d, ls => if i < ls.length then some (ls.set i (some d)) else none
  | .tup ts, d, ls => (match d with
    | .tup xs => asgs ts xs ls
    | _ => none)
def asgs : Tgs → List D → Loc → Option Loc
  | .nil, [], ls => some ls
  | .cons t ts, x :: xs, ls => (asg t x ls).bind fun ls' => asgs ts xs ls'
  | _, _, _ => none
end
/-- stored from the right -/
def setAll : List Nat → List D → Loc → Option Loc
  | [], [], ls => some ls
  | i :: is, d :: ds, ls => (setAll is ds ls).bind fun l => if i < l.length then some (l.set i (some d)) else none
  | _, _, _ => none
def wipeL (ls : Loc) : List Nat → Loc
  | [] => ls
  | v :: vs => (wipeL ls vs).set v none
/-- what a loop walks: the items, and what must stand in the store at each turn -/
abbrev Wk := List D × List (Nat × List D)
def stands (ps : List (Nat × List D)) (S : Sto) : Prop := ∀ p ∈ ps, S[p.1]? = some (.lst p.2)
def srcD (S : Sto) : D → Option Wk
  | .lst xs => some (xs, [])
  | .tup xs => some (xs, [])
  | .ro xs => some (xs, [])
  | .str s => some (s.map fun c => .str [c], [])
  | .loc l => (match S[l]? with
    | some (.lst xs) => some (xs, [(l, xs)])
    | _ => none)
  | _ => none
/-- .. a list or a tuple -/
def srcQ (S : Sto) : D → Option Wk
  | .str _ => none
  | d => srcD S d
def rngL (lo : Int) (n : Nat) : List D := (List.range n).map fun (k : Nat) => .int (lo + k)
def rngC (lo c : Int) (n : Nat) : List D := (List.range n).map fun (k : Nat) => .int (lo + k * c)
def rngOk (i : Int) : Bool := decide (-(2 ^ 62) ≤ i) && decide (i < 2 ^ 62)
def enuL : Nat → List D → List D
  | _, [] => []
  | k, x :: xs => .tup [.int k, x] :: enuL (k + 1) xs
def zipL : List D → List D → List D
  | x :: xs, y :: ys => .tup [x, y] :: zipL xs ys
  | _, _ => []
def compF (ps : List (Nat × List D)) (f : D → List D → Sto → Res (List D)) : List D → List D → Sto → Res (List D)
  | [], acc, S => gd (stands ps S) (.ok acc S)
  | x :: xs, acc, S => gd (stands ps S) ((f x acc S).bd fun acc' S' => compF ps f xs acc' S')
/-- the order of data -/
def dlt (a b : D) : Bool := PySem.W.dataLt a.toPy b.toPy
/-- the first of the greatest (of the least) -/
def foldM (mx : Bool) (x : D) (xs : List D) : D := xs.foldl (fun a y => if (if mx = true then dlt a y else dlt y a) = true then y else a) x
def nlst : D → Bool
  | .lst _ => false
  | _ => true
def alikeB (xs : List D) : Bool := xs.all fun x => xs.all fun y => PySem.W.alike x.toPy y.toPy
def tupsB (xs : List D) : Bool := (xs.all fun x => match x with
  | .tup (_ :: _) => true
  | _ => false) || xs.all fun x => match x with
  | .tup _ => false
  | .non => false
  | _ => true
def nonB (xs : List D) : Bool := xs.all fun x => !isNon x
def srtD (xs : List D) : List D := xs.mergeSort (PySem.W.dataLe false D.toPy)
def bltD (S : Sto) : Bt → List D → Option D
  | .len, [a] => (match drf S a with
    | .lst xs => some (.int xs.length)
    | .tup xs => some (.int xs.length)
    | .ro xs => some (.int xs.length)
    | .str s => if s.length ≤ 16777216 then some (.int s.length) else none
    | .dic ks _ => some (.int ks.length)
    | _ => none)
  | .tuple, [a] => (seqD S a).map .tup
  | .list, [a] => (seqD S a).map .lst
  | .sum, [a] => (match drf S a with
    | .lst xs => (xs.mapM asIn).map fun (is : List Int) => .int is.sum
    | _ => none)
  | .any, [a] => (match drf S a with
    | .lst xs => (xs.mapM asBl).map fun bs => .bl (bs.any id)
    | _ => none)
  | .all, [a] => (match drf S a with
    | .lst xs => (xs.mapM asBl).map fun bs => .bl (bs.all id)
    | _ => none)
  | .max1, [a] => (match seqD S a with
    | some (x :: xs) => if purs (x :: xs) && alikeB (x :: xs) && nonB (x :: xs) && decide (deps (x :: xs) ≤ 100) && nlst (foldM true x xs) then some (foldM true x xs) else none
    | _ => none)
  | .min1, [a] => (match seqD S a with
    | some (x :: xs) => if purs (x :: xs) && alikeB (x :: xs) && nonB (x :: xs) && decide (deps (x :: xs) ≤ 100) && nlst (foldM false x xs) then some (foldM false x xs) else none
    | _ => none)
  | .sorted, [a] => (match drf S a with
    | .lst xs => if purs xs && alikeB xs && tupsB xs && decide (deps xs ≤ 100) then some (.lst (srtD xs)) else none
    | _ => none)
  | .max2, [.int i, .int j] => some (.int (if j > i then j else i))
  | .min2, [.int i, .int j] => some (.int (if j < i then j else i))
  | .abs, [.int i] => some (.int (if i < 0 then -i else i))
  | .int1, [.int i] => some (.int i)
  | .int1, [.bl k] => some (.int (if k then 1 else 0))
  | .str1, [.int i] => if i.natAbs.log2 < 1920 then some (.str (Str.ofString (toString i)).cps.toList) else none
  | _, _ => none
def asSt : D → Option (List Nat)
  | .str t => some t
  | _ => none
def mthD (m : Mt) (o : D) (es : List D) (S : Sto) : Res D := match m with
  | .append => (match o, es with
    | .loc l, [y] => (match S[l]? with
      | some (.lst xs) => if xs.length < 16777216 then .ok .non (S.set l (.lst (xs ++ [y]))) else .bad
      | _ => .bad)
    | _, _ => .bad)
  | .extend => (match o, es with
    | .loc l, [y] => (match S[l]?, drf S y with
      | some (.lst xs), .lst zs => if xs.length + zs.length ≤ 16777216 then .ok .non (S.set l (.lst (xs ++ zs))) else .bad
      | _, _ => .bad)
    | _, _ => .bad)
  | .pop => (match o, es with
    | .loc l, [] => (match S[l]? with
      | some (.lst xs) => (match xs[xs.length - 1]? with
        | some y => .ok y (S.set l (.lst xs.dropLast))
        | none => .bad)
      | _ => .bad)
    | _, _ => .bad)
  | .index => (match o, es with
    | .tup xs, [.str z] => (match xs.mapM asSt with
      | some zs => (match zs.findIdx? fun x => decide (x = z) with
        | some j => .ok (.int j) S
        | none => .bad)
      | none => .bad)
    | _, _ => .bad)
  | .join => (match o, es with
    | .str s, [a] => (match seqD S a with
      | some xs => (match xs.mapM asSt with
        | some ts => if (ts.map List.length).sum + ts.length * s.length ≤ 16777216 then .ok (.str (TL.joinL s ts)) S else .bad
        | none => .bad)
      | none => .bad)
    | _, _ => .bad)
  | _ => .bad
def reo {α : Type} (ws : List α) : List Nat → Option (List α)
  | [] => some []
  | i :: is => match ws[i]?, reo ws is with
    | some w, some r => some (w :: r)
    | _, _ => none
/-- may the method be asked -/
def tyM (m : Mt) (S : Sto) (d : D) : Bool := match m, drf S d with
  | .append, .lst _ => true
  | .extend, .lst _ => true
  | .pop, .lst _ => true
  | .index, .tup _ => true
  | .join, .str _ => true
  | _, _ => false
mutual
def ev (cx : Cxt) : CE → Bool → Loc → Sto → Res D
  | .var i, t, ls, S => fin t (match ls[i]? with
    | some (some d) => .ok d S
    | _ => .bad)
  | .con d, t, _, S => fin t (.ok d S)
  | .glb x, t, _, S => fin t (ofO S (cx.glb x))
  | .tup es, t, ls, S => fin t ((evs cx es ls S).bd fun ds S1 => if ds.length ≤ 16777216 then .ok (.tup ds) S1 else .bad)
  | .lst es, t, ls, S => fin t ((evs cx es ls S).bd fun ds S1 => if ds.length ≤ 16777216 then .ok (.lst ds) S1 else .bad)
  | .dsp ks vs, t, ls, S => fin t ((evs cx vs ls S).nox.bd fun ds S1 => if ds.length = ks.length ∧ ks.length ≤ 15 then .ok (.dic ks ds) S1 else .bad)
  | .live e, t, ls, S => fin t ((ev cx e false ls S).bd fun d S1 => match d with
    | .lst xs => .ok (.loc S1.length) (S1 ++ [.lst xs])
    | _ => .bad)
  | .bin op a b, t, ls, S => fin t ((ev cx a false ls S).bd fun x S1 => (ev cx b false ls S1).bd fun y S2 => ofO S2 (binD op S2 x y))
  | .neg a, t, ls, S => fin t ((ev cx a false ls S).bd fun x S1 => match x with
    | .int i => .ok (.int (-i)) S1
    | _ => .bad)
  | .nt a, t, ls, S => (ev cx a t ls S).bd fun x S1 => match x with
    | .bl b => .ok (.bl (!b)) S1
    | _ => .bad
  | .cmp op a b, _, ls, S => (ev cx a false ls S).bd fun x S1 => (ev cx b false ls S1).bd fun y S2 => ofO S2 (cmpD op S2 x y)
  | .chn o1 o2 a b c, _, ls, S => (ev cx a false ls S).bd fun x S1 => (ev cx b false ls S1).bd fun y S2 => match cmpD o1 S2 x y with
    | some (.bl true) => (ev cx c false ls S2).bd fun z S3 => ofO S3 (cmpD o2 S3 y z)
    | some (.bl false) => .ok (.bl false) S2
    | _ => .bad
  | .and es, t, ls, S => evA cx es t ls S
  | .or es, t, ls, S => evO cx es t ls S
  | .ite c a b, t, ls, S => (ev cx c true ls S).bd fun x S1 => match x with
    | .bl true => ev cx a t ls S1
    | .bl false => ev cx b t ls S1
    | _ => .bad
  | .idx a b, t, ls, S => fin t ((ev cx a false ls S).bd fun x S1 => (ev cx b false ls S1).bd fun y S2 => ofO S2 (idxD S2 x y))
  | .slc a lo hi, t, ls, S => fin t ((ev cx a false ls S).bd fun x S1 => (evp cx lo ls S1).bd fun l S2 => (evp cx hi ls S2).bd fun h S3 => ofO S3 (slcD S3 x l h))
  | .rev a, t, ls, S => fin t ((ev cx a false ls S).bd fun x S1 => match drf S1 x with
    | .lst xs => .ok (.lst xs.reverse) S1
    | _ => .bad)
  | .cal f es, t, ls, S => fin t ((evs cx es ls S).bd fun ds S1 => cx.cal f ds S1)
  | .calk f ks vs, t, ls, S => fin t ((evs cx vs ls S).bd fun ds S1 => match cx.kws f ks with
    | some ix => (match reo ds ix with
      | some as => cx.cal f as S1
      | none => .bad)
    | none => .bad)
  | .isi e T, t, ls, S => fin t ((ev cx e false ls S).bd fun d S1 => ofO S1 ((isiD S1 d T).map .bl))
  | .blt f es, t, ls, S => fin t ((evs cx es ls S).bd fun ds S1 => ofO S1 (bltD S1 f ds))
  | .mth m o es, t, ls, S => fin t ((ev cx o false ls S).bd fun d S1 => if tyM m S1 d = true then (evs cx es ls S1).bd fun ds S2 => mthD m d ds S2 else .bad)
  | .comp own tg it ifs elt, t, ls, S => fin t ((evi cx it ls S).bd fun w S1 =>
      (compF w.2 (fun x acc S2 => match asg tg x (wipeL ls own) with
        | some l2 => (match ifs with
          | .no => (ev cx elt false l2 S2).bd fun y S3 => if acc.length < 16777216 then .ok (acc ++ [y]) S3 else .bad
          | .so c => (ev cx c true l2 S2).bd fun b S3 => match b with
            | .bl true => (ev cx elt false l2 S3).bd fun y S4 => if acc.length < 16777216 then .ok (acc ++ [y]) S4 else .bad
            | .bl false => .ok acc S3
            | _ => .bad)
        | none => .bad) w.1 [] S1).nox.bd fun acc S2 => .ok (.lst acc) S2)
  | .dcmp own tg it ifs k v, t, ls, S => fin t .bad
  | .exf i f, _, _, _ => .bad
  | .gix x e, t, ls, S => fin t ((ev cx e false ls S).bd fun y S1 => match cx.gdc x with
    | some p => ofO S1 (look p.1 p.2 y)
    | none => .bad)
  | .gin x e, _, ls, S => (ev cx e false ls S).bd fun y S1 => match cx.gdc x with
    | some p => (match y with
      | .str t => .ok (.bl ((look p.1 p.2 (.str t)).isSome != false)) S1
      | _ => .bad)
    | none => .bad
  | .gni x e, _, ls, S => (ev cx e false ls S).bd fun y S1 => match cx.gdc x with
    | some p => (match y with
      | .str t => .ok (.bl ((look p.1 p.2 (.str t)).isSome != true)) S1
      | _ => .bad)
    | none => .bad
  | .any, _, _, _ => .bad
def evs (cx : Cxt) : CL → Loc → Sto → Res (List D)
  | .nil, _, S => .ok [] S
  | .cons e es, ls, S => (ev cx e false ls S).bd fun d S1 => (evs cx es ls S1).bd fun ds S2 => .ok (d :: ds) S2
def evp (cx : Cxt) : CO → Loc → Sto → Res (Option Int)
  | .no, _, S => .ok none S
  | .so e, ls, S => (ev cx e false ls S).bd fun d S1 => match d with
    | .int i => .ok (some i) S1
    | _ => .bad
def evA (cx : Cxt) : CL → Bool → Loc → Sto → Res D
  | .nil, _, _, _ => .bad
  | .cons e .nil, t, ls, S => ev cx e t ls S
  | .cons e es, t, ls, S => (ev cx e t ls S).bd fun d S1 => match d with
    | .bl true => evA cx es t ls S1
    | .bl false => .ok (.bl false) S1
    | _ => .bad
def evO (cx : Cxt) : CL → Bool → Loc → Sto → Res D
  | .nil, _, _, _ => .bad
  | .cons e .nil, t, ls, S => ev cx e t ls S
  | .cons e es, t, ls, S => (ev cx e t ls S).bd fun d S1 => match d with
    | .bl true => .ok (.bl true) S1
    | .bl false => evO cx es t ls S1
    | _ => .bad
def evi (cx : Cxt) : CI → Loc → Sto → Res Wk
  | .seq e, ls, S => (ev cx e false ls S).bd fun d S1 => ofO S1 (srcD S1 d)
  | .rng1 a, ls, S => (ev cx a false ls S).bd fun d S1 => match d with
    | .int j => if rngOk j then .ok (rngL 0 j.toNat, []) S1 else .bad
    | _ => .bad
  | .rng2 a b, ls, S => (ev cx a false ls S).bd fun d S1 => (ev cx b false ls S1).bd fun e S2 => match d, e with
    | .int i, .int j => if rngOk i && rngOk j then .ok (rngL i (j - i).toNat, []) S2 else .bad
    | _, _ => .bad
  | .rng3 a b c, ls, S => .bad
  | .enu e, ls, S => (ev cx e false ls S).bd fun d S1 => (ofO S1 (srcQ S1 d)).bd fun w S2 => .ok (enuL 0 w.1, w.2) S2
  | .zip a b, ls, S => (ev cx a false ls S).bd fun d S1 => (ev cx b false ls S1).bd fun e S2 => (ofO S2 (srcD S2 d)).bd fun w S3 => (ofO S3 (srcD S3 e)).bd fun u S4 => .ok (zipL w.1 u.1, w.2 ++ u.2) S4
  | .rvs e, ls, S => (ev cx e false ls S).bd fun d S1 => (ofO S1 (srcD S1 d)).bd fun w S2 => .ok (w.1.reverse, w.2) S2
end
end
end Ev
/-! Ev3: statements, defs, calls by levels; the look that a compact text is that of the row. -/
namespace Ev
open PySem L2

inductive SR where
  | nx (ls : Loc) (S : Sto) | rt (d : D) (S : Sto) | bk (ls : Loc) (S : Sto) | ct (ls : Loc) (S : Sto)
  | exc (c : String) (fs : List (String × D)) (ls : Loc) (S : Sto) | bad
def Res.sd {α : Type} (ls : Loc) (r : Res α) (f : α → Sto → SR) : SR := match r with
  | .ok a S => f a S
  | .exc c fs S => .exc c fs ls S
  | .bad => .bad
@[simp] theorem Res.sd_ok {α : Type} (ls : Loc) (a : α) (S : Sto) (f : α → Sto → SR) : (Res.ok a S).sd ls f = f a S := rfl
@[simp] theorem Res.sd_exc {α : Type} (ls : Loc) (c : String) (fs : List (String × D)) (S : Sto) (f : α → Sto → SR) : (Res.exc c fs S : Res α).sd ls f = .exc c fs ls S := rfl
@[simp] theorem Res.sd_bad {α : Type} (ls : Loc) (f : α → Sto → SR) : (Res.bad : Res α).sd ls f = .bad := rfl
theorem Res.sd_congr {α : Type} {ls : Loc} {r r' : Res α} {f : α → Sto → SR} (h : r = r') : r.sd ls f = r'.sd ls f := by rw [h]
def SR.sq (r : SR) (f : Loc → Sto → SR) : SR := match r with
  | .nx ls S => f ls S
  | r => r
@[simp] theorem SR.sq_nx (ls : Loc) (S : Sto) (f : Loc → Sto → SR) : (SR.nx ls S).sq f = f ls S := rfl
@[simp] theorem SR.sq_rt (d : D) (S : Sto) (f : Loc → Sto → SR) : (SR.rt d S).sq f = .rt d S := rfl
@[simp] theorem SR.sq_bk (ls : Loc) (S : Sto) (f : Loc → Sto → SR) : (SR.bk ls S).sq f = .bk ls S := rfl
@[simp] theorem SR.sq_ct (ls : Loc) (S : Sto) (f : Loc → Sto → SR) : (SR.ct ls S).sq f = .ct ls S := rfl
@[simp] theorem SR.sq_exc (c : String) (fs : List (String × D)) (ls : Loc) (S : Sto) (f : Loc → Sto → SR) : (SR.exc c fs ls S).sq f = .exc c fs ls S := rfl
@[simp] theorem SR.sq_bad (f : Loc → Sto → SR) : SR.bad.sq f = .bad := rfl
theorem SR.sq_congr {r r' : SR} {f : Loc → Sto → SR} (h : r = r') : r.sq f = r'.sq f := by rw [h]
noncomputable section
def gdS (p : Prop) (r : SR) : SR := open Classical in if p then r else .bad
theorem gdS_pos {p : Prop} {r : SR} (h : p) : gdS p r = r := by unfold gdS; rw [if_pos h]
theorem gdS_neg {p : Prop} {r : SR} (h : ¬ p) : gdS p r = .bad := by unfold gdS; rw [if_neg h]
/-- behind a loop's turn -/
def SR.lp (r : SR) (again : Loc → Sto → SR) : SR := match r with
  | .nx ls S => again ls S
  | .ct ls S => again ls S
  | .bk ls S => .nx ls S
  | r => r
@[simp] theorem SR.lp_nx (ls : Loc) (S : Sto) (f : Loc → Sto → SR) : (SR.nx ls S).lp f = f ls S := rfl
@[simp] theorem SR.lp_rt (d : D) (S : Sto) (f : Loc → Sto → SR) : (SR.rt d S).lp f = .rt d S := rfl
@[simp] theorem SR.lp_bk (ls : Loc) (S : Sto) (f : Loc → Sto → SR) : (SR.bk ls S).lp f = .nx ls S := rfl
@[simp] theorem SR.lp_ct (ls : Loc) (S : Sto) (f : Loc → Sto → SR) : (SR.ct ls S).lp f = f ls S := rfl
@[simp] theorem SR.lp_exc (c : String) (fs : List (String × D)) (ls : Loc) (S : Sto) (f : Loc → Sto → SR) : (SR.exc c fs ls S).lp f = .exc c fs ls S := rfl
@[simp] theorem SR.lp_bad (f : Loc → Sto → SR) : SR.bad.lp f = .bad := rfl
theorem SR.lp_congr {r r' : SR} {f : Loc → Sto → SR} (h : r = r') : r.lp f = r'.lp f := by rw [h]
def forF (ps : List (Nat × List D)) (f : D → Loc → Sto → SR) : List D → Loc → Sto → SR
  | [], ls, S => gdS (stands ps S) (.nx ls S)
  | x :: xs, ls, S => gdS (stands ps S) ((f x ls S).lp fun ls' S' => forF ps f xs ls' S')
def whlF (c : Loc → Sto → Res D) (b : Loc → Sto → SR) : Nat → Loc → Sto → SR
  | 0, _, _ => .bad
  | n + 1, ls, S => (c ls S).sd ls fun d S1 => match d with
    | .bl true => (b ls S1).lp fun ls' S' => whlF c b n ls' S'
    | .bl false => .nx ls S1
    | _ => .bad
def putD (S : Sto) (o k v : D) : Option Sto := match o with
  | .loc l => (match S[l]? with
    | some (.lst xs) => (match k with
      | .int i => (ixN xs.length i).map fun j => S.set l (.lst (xs.set j v))
      | _ => none)
    | _ => none)
  | _ => none
def augD (op : Operator) (x y : D) : Option D := match op with
  | .Add => (match x, y with
    | .int i, .int j => some (.int (i + j))
    | .str s, .str t => if s.length + t.length ≤ 16777216 then some (.str (s ++ t)) else none
    | _, _ => none)
  | .Sub => (match x, y with
    | .int i, .int j => some (.int (i - j))
    | _, _ => none)
  | .Mult => (match x, y with
    | .int i, .int j => if mulOk i j then some (.int (i * j)) else none
    | _, _ => none)
  | .FloorDiv => (match x, y with
    | .int i, .int j => if 0 < j ∧ j < 1073741824 then some (.int (i / j)) else none
    | _, _ => none)
  | _ => none
/-- an own error with its own fields -/
def xok (fld : String → List String) (c : String) (fs : List (String × D)) : Bool := !(fld c).isEmpty && fs.all fun p => decide (p.1 ∈ fld c)
def hotV : CE → List (String × D) → Option D
  | .con d, _ => some d
  | .exf _ f, fs => fs.lookup f
  | _, _ => none
def hotL : CL → List (String × D) → Option (List D)
  | .nil, _ => some []
  | .cons e es, fs => match hotV e fs, hotL es fs with
    | some d, some ds => some (d :: ds)
    | _, _ => none
mutual
def evS (cx : Cxt) : CS → Loc → Sto → SR
  | .expr e, ls, S => (ev cx e false ls S).sd ls fun _ S1 => .nx ls S1
  | .set tg e, ls, S => (ev cx e false ls S).sd ls fun d S1 => match asg tg d ls with
    | some l2 => .nx l2 S1
    | none => .bad
  | .par is es, ls, S => (evs cx es ls S).sd ls fun ds S1 => match setAll is ds ls with
    | some l2 => .nx l2 S1
    | none => .bad
  | .put o k v, ls, S => (ev cx v false ls S).sd ls fun y S1 => (ev cx o false ls S1).sd ls fun x S2 => (ev cx k false ls S2).sd ls fun z S3 => match putD S3 x z y with
    | some S4 => .nx ls S4
    | none => .bad
  | .aug i op e, ls, S => (match ls[i]? with
    | some (some x) => (ev cx e false ls S).sd ls fun y S1 => match augD op x y with
      | some z => .nx (ls.set i (some z)) S1
      | none => .bad
    | _ => .bad)
  | .augs o k op e, ls, S => (ev cx o false ls S).sd ls fun x S1 => (ev cx k false ls S1).sd ls fun z S2 => match idxD S2 x z with
    | some u => (ev cx e false ls S2).sd ls fun y S3 => (match augD op u y with
      | some r => (match putD S3 x z r with
        | some S4 => .nx ls S4
        | none => .bad)
      | none => .bad)
    | none => .bad
  | .ifs c a b, ls, S => (ev cx c true ls S).sd ls fun d S1 => match d with
    | .bl true => evB cx a ls S1
    | .bl false => evB cx b ls S1
    | _ => .bad
  | .whl c b, ls, S => whlF (fun l s => ev cx c true l s) (fun l s => evB cx b l s) cx.fuel ls S
  | .for_ tg it b, ls, S => (evi cx it ls S).sd ls fun w S1 => forF w.2 (fun x l s => match asg tg x l with
    | some l2 => evB cx b l2 s
    | none => .bad) w.1 ls S1
  | .ret e, ls, S => (ev cx e false ls S).sd ls fun d S1 => .rt d S1
  | .retn, _, S => .rt .non S
  | .brk, ls, S => .bk ls S
  | .cnt, ls, S => .ct ls S
  | .pas, ls, S => .nx ls S
  | .any, _, _ => .bad
  | .rai c es, ls, S => (evs cx es ls S).sd ls fun ds S1 => if ds.length = (cx.fld c).length ∧ ds.length ≤ 2 ∧ 0 < ds.length then .exc c ((cx.fld c).zip ds) ls S1 else .bad
  | .tryr b c i es, ls, S => match evB cx b ls S with
    | .exc c' fs l1 S1 => if xok cx.fld c' fs = true then (if cx.sub c' c = true then (match hotL es fs with
        | some ds => if ds.length ≤ 16777216 then .rt (.tup ds) S1 else .bad
        | none => .bad) else .exc c' fs l1 S1) else .bad
    | r => r
def evB (cx : Cxt) : CB → Loc → Sto → SR
  | .nil, ls, S => .nx ls S
  | .cons s b, ls, S => (evS cx s ls S).sq fun l2 S2 => evB cx b l2 S2
end

/-! ### defs -/
mutual
/-- no place of the store from n on -/
def D.bel (n : Nat) : D → Bool
  | .tup xs => bels n xs
  | .lst xs => bels n xs
  | .ro xs => bels n xs
  | .dic ks vs => bels n vs
  | .loc l => decide (l < n)
  | _ => true
def bels (n : Nat) : List D → Bool
  | [] => true
  | x :: xs => x.bel n && bels n xs
end
def Ob.bel (n : Nat) : Ob → Bool
  | .lst xs => bels n xs
  | .dic _ vs => bels n vs
  | .dead => true
/-- what is handed back, its new lists told as what they hold -/
def thaw (n : Nat) (S : Sto) : Nat → D → D
  | 0, d => d
  | k + 1, .loc l => if l < n then .loc l else (match S[l]? with
    | some (.lst xs) => .lst (xs.map (thaw n S k))
    | _ => .loc l)
  | k + 1, .tup xs => .tup (xs.map (thaw n S k))
  | k + 1, .lst xs => .lst (xs.map (thaw n S k))
  | _ + 1, d => d
/-- the store without what is new, where nothing old has come to hold it -/
def oldOk (S0 S : Sto) : Prop := S0.length ≤ S.length ∧ ∀ l, l < S0.length → S[l]? = S0[l]? ∨ ∃ o, S[l]? = some o ∧ o.bel S0.length = true
inductive Md where
  | raw | trim (k : Nat)
structure FDef where
  name : String
  np : Nat
  nl : Nat
  md : Md
  body : CB
def leave (md : Md) (S0 : Sto) (r : SR) : Res D := match md with
  | .raw => (match r with
    | .rt d S => .ok d S
    | .nx _ S => .ok .non S
    | .exc c fs _ S => .exc c fs S
    | _ => .bad)
  | .trim k => (match r with
    | .rt d S => gd (oldOk S0 S ∧ (thaw S0.length S k d).bel S0.length = true) (.ok (thaw S0.length S k d) (S.take S0.length))
    | .nx _ S => gd (oldOk S0 S) (.ok .non (S.take S0.length))
    | .exc c fs _ S => gd (oldOk S0 S ∧ ∀ p ∈ fs, p.2.bel S0.length = true) (.exc c fs (S.take S0.length))
    | _ => .bad)
def startD (nl : Nat) (ds : List D) : Loc := ds.map some ++ List.replicate (nl - ds.length) none
structure Glo where
  fns : List String
  glb : String → Option D
  gdc : String → Option (List D × List D)
  kws : String → List String → Option (List Nat)
  fld : String → List String
  sub : String → String → Bool
  fuel : Nat
def Glo.cx (G : Glo) (cal : String → List D → Sto → Res D) : Cxt := ⟨cal, G.glb, G.gdc, G.kws, G.fld, G.sub, G.fuel⟩
def runF (G : Glo) (cal : String → List D → Sto → Res D) (f : FDef) (ds : List D) (S : Sto) : Res D :=
  if ds.length = f.np then leave f.md S (evB (G.cx cal) f.body (startD f.nl ds) S) else .bad
def callF (G : Glo) (tab : List FDef) : Nat → String → List D → Sto → Res D
  | 0, _, _, _ => .bad
  | n + 1, x, ds, S => match tab.find? fun f => f.name == x with
    | some f => runF G (callF G tab n) f ds S
    | none => .bad
end
end Ev
/-! Ev4: the readings: what an evaluation promises of the heap. -/
namespace Ev
open PySem PySem.Spec PyProof.Rows L2

/-- where a def's body began -/
structure W0 where
  φ : List Addr
  S : Sto
  H : Hp
  B : Addr → Prop

/-- an own error with its fields -/
def ExR (K : PySem.W.Frag) (mg : Str → Option Value) (φ : List Addr) (L : Addr → Prop) (H : Hp) (c : String) (fs : List (String × D)) (cls : Value) (dd : Option Addr) : Prop :=
  ∃ (C a : Addr) (gs : List (Str × V)), mg (Str.ofString c) = some (.ref C) ∧ cls = .ref C ∧ dd = some a ∧ H a = some (.xd gs) ∧ ∀ f d, fs.lookup f = some d → ∃ v, gs.lookup (Str.ofString f) = some v ∧ Rep K φ L H d v

/-- slots -/
def LocR (K : PySem.W.Frag) (φ : List Addr) (L : Addr → Prop) (H : Hp) (ls : Loc) (σ : L2.St) : Prop :=
  ls.length = σ.length ∧ ∀ (i : Nat) (d : D), ls[i]? = some (some d) → ∃ v, σ[i]? = some (some v) ∧ Rep K φ L H d v

section
variable (K : PySem.W.Frag) (mg : Str → Option Value) (z : W0) (W : WX)
def eOk (φ : List Addr) (S S' : Sto) (H : Hp) (d : D) (Q : VK) : Prop :=
  ∀ φ' H' v, Stp φ S H φ' S' H' → Wld K φ' S' H' z.B → Rep K φ' (LB φ' S' z.B) H' d v → Q v H'
def eEx (σ : L2.St) (S' : Sto) (c : String) (fs : List (String × D)) : Prop :=
  ∀ φ' H' cls dd, Stp z.φ z.S z.H φ' S' H' → Wld K φ' S' H' z.B → ExR K mg φ' (LB φ' S' z.B) H' c fs cls dd → W cls dd σ H'
/-- a world of the body, its slots -/
structure Here (φ : List Addr) (S : Sto) (ls : Loc) (σ : L2.St) (H : Hp) : Prop where
  st : Stp z.φ z.S z.H φ S H
  w : Wld K φ S H z.B
  l : LocR K φ (LB φ S z.B) H ls σ
def up (w : Loc → Sto → Res D) : TE := fun σ H Q => ∃ φ S ls, Here K z φ S ls σ H ∧ match w ls S with
  | .ok d S' => eOk K z φ S S' H d Q
  | .exc c fs S' => eEx K mg z W σ S' c fs
  | .bad => False
/-- a new list (or dict) comes, at a free place -/
def eNew (φ : List Addr) (S S' : Sto) (H : Hp) (d : D) (Q : VK) : Prop := match d with
  | .lst xs => ∀ φ' H1 p vs, Stp φ S H φ' S' H1 → Wld K φ' S' H1 z.B → Reps K φ' (LB φ' S' z.B) H1 xs vs → H1 p = none → Q (.ref p) (upd H1 p (.lst vs))
  | d => eOk K z φ S S' H d Q
def upN (w : Loc → Sto → Res D) : TE := fun σ H Q => ∃ φ S ls, Here K z φ S ls σ H ∧ match w ls S with
  | .ok d S' => eNew K z φ S S' H d Q
  | .exc c fs S' => eEx K mg z W σ S' c fs
  | .bad => False
/-- a test -/
def upT (w : Loc → Sto → Res D) : TT := fun σ H Q => ∃ φ S ls, Here K z φ S ls σ H ∧ match w ls S with
  | .ok (.bl b) S' => ∀ φ' H', Stp φ S H φ' S' H' → Wld K φ' S' H' z.B → Q b H'
  | .ok _ _ => False
  | .exc c fs S' => eEx K mg z W σ S' c fs
  | .bad => False
def upA (w : Loc → Sto → Res (List D)) : TA := fun σ H Q => ∃ φ S ls, Here K z φ S ls σ H ∧ match w ls S with
  | .ok ds S' => ∀ φ' H' vs, Stp φ S H φ' S' H' → Wld K φ' S' H' z.B → Reps K φ' (LB φ' S' z.B) H' ds vs → Q vs H'
  | .exc c fs S' => eEx K mg z W σ S' c fs
  | .bad => False
def upO (w : Loc → Sto → Res (Option Int)) : TO := fun σ H Q => ∃ φ S ls, Here K z φ S ls σ H ∧ match w ls S with
  | .ok o S' => ∀ φ' H', Stp φ S H φ' S' H' → Wld K φ' S' H' z.B → Q o H'
  | .exc c fs S' => eEx K mg z W σ S' c fs
  | .bad => False
end

section
variable {K : PySem.W.Frag} {mg : Str → Option Value} {z : W0} {W : WX} {φ φ' : List Addr} {S S' S1 : Sto} {H H' H1 : Hp} {ls : Loc} {σ : L2.St}
theorem LocR.step {L L' : Addr → Prop} (k : Kp φ L H φ' L' H') (l : LocR K φ L H ls σ) : LocR K φ' L' H' ls σ :=
  ⟨l.1, fun i d e => by
    obtain ⟨v, e1, r⟩ := l.2 i d e
    exact ⟨v, e1, r.keeps k⟩⟩
theorem Here.step (h : Here K z φ S ls σ H) (s : Stp φ S H φ' S' H') (w : Wld K φ' S' H' z.B) : Here K z φ' S' ls σ H' :=
  ⟨h.st.trans s, w, h.l.step s.keeps⟩
theorem Here.get (h : Here K z φ S ls σ H) {i : Nat} {d : D} (e : ls[i]? = some (some d)) : ∃ v, σ[i]? = some (some v) ∧ Rep K φ (LB φ S z.B) H d v := h.l.2 i d e
theorem Here.set (h : Here K z φ S ls σ H) {i : Nat} {d : D} {v : V} (hi : i < ls.length) (r : Rep K φ (LB φ S z.B) H d v) : Here K z φ S (ls.set i (some d)) (σ.set i (some v)) H := by
  refine ⟨h.st, h.w, by rw [List.length_set, List.length_set]; exact h.l.1, fun j d' e => ?_⟩
  by_cases hj : i = j
  · subst hj
    rw [List.getElem?_set_self hi] at e
    have e' : d = d' := by simpa using e
    subst e'
    exact ⟨v, by rw [List.getElem?_set_self (by rw [← h.l.1]; exact hi)], r⟩
  · rw [List.getElem?_set_ne hj] at e
    obtain ⟨v', e1, r1⟩ := h.l.2 j d' e
    exact ⟨v', by rw [List.getElem?_set_ne hj]; exact e1, r1⟩
theorem Here.unset (h : Here K z φ S ls σ H) {i : Nat} {o : Option V} : Here K z φ S (ls.set i none) (σ.set i o) H := by
  refine ⟨h.st, h.w, by rw [List.length_set, List.length_set]; exact h.l.1, fun j d' e => ?_⟩
  by_cases hj : i = j
  · subst hj
    by_cases hi : i < ls.length
    · rw [List.getElem?_set_self hi] at e; cases e
    · rw [List.getElem?_eq_none (by simpa using hi)] at e; cases e
  · rw [List.getElem?_set_ne hj] at e
    obtain ⟨v', e1, r1⟩ := h.l.2 j d' e
    exact ⟨v', by rw [List.getElem?_set_ne hj]; exact e1, r1⟩
/-- the start of a reading: a world, what is evaluated first -/
theorem up_of {w : Loc → Sto → Res D} {Q : VK} (h : Here K z φ S ls σ H) {d : D} (e : w ls S = .ok d S') (q : eOk K z φ S S' H d Q) : up K mg z W w σ H Q :=
  ⟨φ, S, ls, h, by rw [e]; exact q⟩
theorem up_ex {w : Loc → Sto → Res D} {Q : VK} (h : Here K z φ S ls σ H) {c : String} {fs : List (String × D)} (e : w ls S = .exc c fs S') (q : eEx K mg z W σ S' c fs) : up K mg z W w σ H Q :=
  ⟨φ, S, ls, h, by rw [e]; exact q⟩
/-- one thing behind another -/
theorem up_bd {w : Loc → Sto → Res D} {f : D → Sto → Res D} {Q Q' : VK} {r : Res D} (h : Here K z φ S ls σ H)
    (hr : match (w ls S).bd f with
      | .ok d S' => eOk K z φ S S' H d Q
      | .exc c fs S' => eEx K mg z W σ S' c fs
      | .bad => False)
    (hq : ∀ d S1 φ1 H1 v, Stp φ S H φ1 S1 H1 → Here K z φ1 S1 ls σ H1 → Rep K φ1 (LB φ1 S1 z.B) H1 d v →
      (match f d S1 with
      | .ok d S' => eOk K z φ1 S1 S' H1 d Q
      | .exc c fs S' => eEx K mg z W σ S' c fs
      | .bad => False) → Q' v H1) : up K mg z W w σ H Q' := by
  refine ⟨φ, S, ls, h, ?_⟩
  cases e : w ls S with
  | bad => rw [e] at hr; exact hr
  | exc c fs S' => rw [e] at hr; exact hr
  | ok d S1 =>
    rw [e] at hr
    intro φ1 H1 v st wd rp
    refine hq d S1 φ1 H1 v st (h.step st wd) rp ?_
    show match f d S1 with
      | .ok d S' => eOk K z φ1 S1 S' H1 d Q
      | .exc c fs S' => eEx K mg z W σ S' c fs
      | .bad => False
    change match f d S1 with
      | .ok d S' => eOk K z φ S S' H d Q
      | .exc c fs S' => eEx K mg z W σ S' c fs
      | .bad => False at hr
    cases e2 : f d S1 with
    | bad => rw [e2] at hr; exact hr
    | exc c fs S' => rw [e2] at hr; exact hr
    | ok d2 S2 =>
      rw [e2] at hr
      exact fun φ2 H2 v2 st2 => hr φ2 H2 v2 (st.trans st2)
end

/-! ### what is known of the program -/
def spD (K : PySem.W.Frag) (mg : Str → Option Value) (cal : List D → Sto → Res D) : Sp := fun vs H Q E => ∃ φ S B ds, Wld K φ S H B ∧ Reps K φ (LB φ S B) H ds vs ∧ match cal ds S with
  | .ok d S' => ∀ φ' H' v, Stp φ S H φ' S' H' → Wld K φ' S' H' B → Rep K φ' (LB φ' S' B) H' d v → Q v H'
  | .exc c fs S' => ∀ φ' H' cls dd, Stp φ S H φ' S' H' → Wld K φ' S' H' B → ExR K mg φ' (LB φ' S' B) H' c fs cls dd → E cls dd H'
  | .bad => False

def bltNames : List Str := ["len", "tuple", "list", "sum", "max", "min", "any", "all", "int", "str", "sorted", "dict", "abs", "range", "enumerate", "zip", "reversed", "isinstance", "set", "bool"]

/-- an own error's class, with its __init__ -/
structure ErrOk (P : Program) (w : PySem.World) (K : PySem.W.Frag) (mg : Str → Option Value) (base : Heap) (c : String) (fl : List String) : Prop where
  ex : ∃ (C fI : Addr) (fd : FuncData), mg (Str.ofString c) = some (.ref C) ∧ OexC K C ∧ PySem.W.findIn K (.ref C) "__init__" = some (some (.ref fI)) ∧ PySem.W.typeIn K (.ref fI) = some (.type "function") ∧ PySem.W.keepIn K (.ref C) = true ∧
    FnOk P w K mg base CX0 2 fI fd ("self" :: fl.map Str.ofString) (fun vs H Q _ => ∃ (a : Addr) (ws : List V), vs = .ref a :: ws ∧ ws.length = fl.length ∧ fl ≠ [] ∧ H a = some (exo a C none) ∧
      ∀ d gs, H d = none → d ≠ a → (∀ (i : Nat) (f : String) (v : V), fl[i]? = some f → ws[i]? = some v → gs.lookup (Str.ofString f) = some v) → Q .non (upd (upd H d (exd d gs)) a (exo a C (some d)))) ∧
    Binds K fd ("self" :: fl.map Str.ofString) [] ∧ XfC K C ∧ (∀ f ∈ fl, PySem.W.findIn K (.ref C) (Str.ofString f) = some none)

structure EnvOk (P : Program) (w : PySem.World) (K : PySem.W.Frag) (mg : Str → Option Value) (base : Heap) (G : Glo) (cal : String → List D → Sto → Res D) (k : Nat) : Prop where
  fn : ∀ x ∈ G.fns, ∃ f fd ps, mg (Str.ofString x) = some (.ref f) ∧ PySem.W.keepIn K (.ref f) = true ∧ Binds K fd ps [] ∧ FnOk P w K mg base (L2.CX P w) k f fd ps (spD K mg (cal x)) ∧
    ∀ ks ix, G.kws x ks = some ix → ∀ (s : Shared) (ws rs : List Value), reo ws ix = some rs → ws.length = ks.length → BindsTo s fd ⟨[], (ks.map Str.ofString).zip ws⟩ (ps.zip rs)
  gl : ∀ x d, G.glb x = some d → ∃ u v, mg (Str.ofString x) = some u ∧ RelV v u ∧ ∀ φ L H, Rep K φ L H d v
  gd : ∀ x ks vs, G.gdc x = some (ks, vs) → (∀ k ∈ ks, ∃ t, k = D.str t) ∧ ∃ d es n, mg (Str.ofString x) = some (.ref d) ∧ KDict K w d es n ∧ ∀ t : List Nat, match look ks vs (.str t) with
    | some r => ∃ u v, PySem.W.nsIn K d ⟨t.toArray⟩ = some (some u) ∧ RelV v u ∧ ∀ φ L H, Rep K φ L H r v
    | none => PySem.W.nsIn K d ⟨t.toArray⟩ = some none
  bl : ∀ x ∈ bltNames, mg x = none
  er : ∀ c, G.fld c ≠ [] → ErrOk P w K mg base c (G.fld c)
  sb : ∀ c h C D, G.fld c ≠ [] → G.fld h ≠ [] → mg (Str.ofString c) = some (.ref C) → mg (Str.ofString h) = some (.ref D) → PySem.W.exmOne K (.ref C) (.ref D) = some (G.sub c h)

end Ev
/-! EvE: enumerate over a tuple or a list, each pair's object known. -/
namespace Ev
open PySem PySem.Spec PyProof.Rows L2
section
variable {prog : Program} {w : World} {A : Around} {E : Value → Shared → Prop} {s : Shared}
theorem nextOf_tuple_item {it t : Addr} {i : Nat} {items : Array Value} {x : Value} {Q : Value → Shared → Prop} (hit : s.heap.IsTupleIter it t i)
    (ht : s.heap.IsTuple t items) (hx : items[i]? = some x)
    (hQ : ∀ h', h'.IsTupleIter it t (i + 1) → Heap.SameBut it s.heap h' → Q x { s with heap := h' }) :
    wpAny (model prog w) A (Builtin.SmallTypes.nextOf (.ref it)) Q E s := by
  obtain ⟨o, ho, hc, hd⟩ := id hit
  obtain ⟨ol, hol, _, nl, hdl⟩ := ht
  unfold Builtin.SmallTypes.nextOf
  refine wpAny_bind (wpAny_callSpecial?_slot (name := Str.ofString "__next__") hit.typeIs F.slot_tuple_iterator_next
    (wpAny_call_entry F.slot_tuple_iterator_next hit.typeIs F.entry_tuple_iterator_next ?_ (F.args_tuple_iterator_next_1 _)))
  show wpAny _ _ (field (.ref it) 0 >>= _) _ _ s
  refine wpAny_bind (wpAny_field ho hd (x := .ref t) rfl ?_)
  show wpAny _ _ (if (Value.ref t == Value.none) = true then _ else _) _ _ s
  rw [if_neg (show ¬ ((Value.ref t == Value.none) = true) from Bool.false_ne_true)]
  show wpAny _ _ (field (.ref it) 1 >>= _) _ _ s
  refine wpAny_bind (wpAny_field ho hd (x := .int i 0) rfl ?_)
  show wpAny _ _ (seqItems? (.ref t) >>= _) _ _ s
  refine wpAny_bind (wpAny_seqItems hol hdl ?_)
  simp only [Int.toNat_natCast, hx]
  refine wpAny_bind (wpAny_setField ho hd (by simp) (wpAny_pure ⟨x, rfl, wpAny_pure (hQ _ ?_ (Heap.SameBut.update ..))⟩))
  exact ⟨_, Heap.get?_update_self _ ho (Obj.isFreed_of_fields (Obj.data_mapFields hd _)), (Obj.cls_mapFields ..).trans hc, by
    rw [Obj.data_mapFields hd]; simp [rawInt]⟩
theorem nextOf_tuple_end {it t : Addr} {i : Nat} {items : Array Value} {Q : Value → Shared → Prop} (hh : A.handled = none)
    (hit : s.heap.IsTupleIter it t i) (ht : s.heap.IsTuple t items) (hx : items[i]? = none)
    (hE : ∀ h' e, Heap.ExtBut it s.heap h' → (∃ o, h'.get? e = some o ∧ o.cls = .type "StopIteration") → E (.ref e) { s with heap := h' }) :
    wpAny (model prog w) A (Builtin.SmallTypes.nextOf (.ref it)) Q E s := by
  obtain ⟨o, ho, hc, hd⟩ := id hit
  obtain ⟨ol, hol, _, nl, hdl⟩ := ht
  unfold Builtin.SmallTypes.nextOf
  refine wpAny_bind (wpAny_callSpecial?_slot (name := Str.ofString "__next__") hit.typeIs F.slot_tuple_iterator_next
    (wpAny_call_entry F.slot_tuple_iterator_next hit.typeIs F.entry_tuple_iterator_next ?_ (F.args_tuple_iterator_next_1 _)))
  show wpAny _ _ (field (.ref it) 0 >>= _) _ _ s
  refine wpAny_bind (wpAny_field ho hd (x := .ref t) rfl ?_)
  show wpAny _ _ (if (Value.ref t == Value.none) = true then _ else _) _ _ s
  rw [if_neg (show ¬ ((Value.ref t == Value.none) = true) from Bool.false_ne_true)]
  show wpAny _ _ (field (.ref it) 1 >>= _) _ _ s
  refine wpAny_bind (wpAny_field ho hd (x := .int i 0) rfl ?_)
  show wpAny _ _ (seqItems? (.ref t) >>= _) _ _ s
  refine wpAny_bind (wpAny_seqItems hol hdl ?_)
  simp only [Int.toNat_natCast, hx]
  first
    | refine wpAny_bind (wpAny_rule (wpAny_bind (wpAny_setField ho hd (by simp) ?_)))
    | refine wpAny_bind (wpAny_rule (wpAny_bind (wpAny_setField ho hd (by simp) (wpAny_bind (wpAny_letGo ?_)))))
  show wpAny _ _ (newExc (.type "StopIteration") [] >>= _) _ _ _
  refine wpAny_bind ?_
  simp only [newExc, newTuple]
  refine wpAny_bind (wpAny_newObj_type ?_ (by size_fits))
  refine wpAny_bind (m := firstArgMember _ _) (wpAny_of_eq (a := Value.none) (by first | rfl | (simp only [firstArgMember]; rfl)) ?_)
  refine wpAny_newObj_type ?_ (by size_fits)
  simp only [raiseNew]
  refine wpAny_bind (wpAny_handled ?_)
  first | rw [show A.in1.handled = none from hh] | rw [hh]
  refine wpAny_bind (wpAny_pure (wpAny_throw ?_))
  exact hE _ _ (((Heap.SameBut.update ..).extBut.push _).push _) ⟨_, Heap.get?_push_size _ rfl, rfl⟩
end
theorem at_tup {h h' : Heap} {t : Addr} {items : Array Value} (x : h.IsTuple t items) (k : ∀ o, h.get? t = some o → h'.get? t = some o) : h'.IsTuple t items := let ⟨o, ho, r⟩ := x; ⟨o, k o ho, r⟩
theorem at_tit {h h' : Heap} {a t : Addr} {i : Nat} (x : h.IsTupleIter a t i) (k : ∀ o, h.get? a = some o → h'.get? a = some o) : h'.IsTupleIter a t i := let ⟨o, ho, r⟩ := x; ⟨o, k o ho, r⟩
theorem drawsTuple {prog : Program} {w : World} {A : Around} (hh : A.handled = none) (it l : Addr) (hne : l ≠ it) (items : Array Value) :
    Draws prog w A it [it, l] items.size (fun i v => items[i]? = some v) (fun i h => h.IsTupleIter it l i ∧ h.IsTuple l items) where
  live := fun _ _ st => let ⟨o, ho, _⟩ := st.1; ⟨o, ho⟩
  frame := fun _ _ _ st hk => ⟨at_tit st.1 fun o e => hk it (by simp) o e, at_tup st.2 fun o e => hk l (by simp) o e⟩
  item := fun i s Q E hi st hQ => by
    refine nextOf_tuple_item st.1 st.2 (x := items[i]) (by simp [hi]) fun h' hit' hs' => ?_
    exact hQ _ h' s.toks (by simp [hi]) ⟨hit', st.2.extBut hs'.extBut hne⟩ hs'
  done := fun s Q E st hE => nextOf_tuple_end hh st.1 st.2 (by simp) hE
theorem meets_enumerate_newT (l : Addr) (items : Array Value) (n : Nat) (dct : Option Addr) (sl : Array (Option Value)) :
    Meets (Builtin.«enumerate.__new__» ⟨[.type "enumerate", .ref l], []⟩) (fun _ R s => s.heap.get? l = some { cls := .type "tuple", dict := dct, data := .seq items n, slots := sl } ∧
      R (.ok (.ret (.ref (s.heap.push { cls := .type "tuple_iterator", data := .fields #[.ref l, .int 0 0] }).objs.size)))
        { s with heap := (s.heap.push { cls := .type "tuple_iterator", data := .fields #[.ref l, .int 0 0] }).push { cls := .type "enumerate", data := .fields #[.none, .bool false, .ref s.heap.objs.size, rawInt 0, .none, .none] } }) :=
  .of_wp fun prog w A R s h => by
    obtain ⟨hp, g, d, tk, os⟩ := s; obtain ⟨hl, h⟩ := h
    have hsub := sub_enumerate
    have hL : Heap.IsTuple (Shared.heap ⟨hp, g, d, tk, os⟩) l items := ⟨_, hl, rfl, n, rfl⟩
    wp_walk using AutoSeq1.wpAny_loadPart' hl
    refine wpAny_stack_any fun st => wpAny_pure ?_
    split
    · rename_i c _ _ _ _ _
      cases (c == Value.type "enumerate")
      · wp_walk using AutoSeq1.wpAny_loadPart' hl, wpAny_pyIter_tuple hL
        exact ⟨_, rfl, h⟩
      · wp_walk using AutoSeq1.wpAny_loadPart' hl, wpAny_pyIter_tuple hL
        exact ⟨_, rfl, h⟩
    · wp_walk using AutoSeq1.wpAny_loadPart' hl, wpAny_pyIter_tuple hL
      exact ⟨_, rfl, h⟩
section
variable {prog : Program} {w : World} {A : Around} {E : Value → Shared → Prop} {s : Shared}
theorem call_enumerate_tuple {l : Addr} {items : Array Value} {Q : Value → Shared → Prop} (hL : s.heap.IsTuple l items)
    (h : ∀ h', IsEnum h' (s.heap.objs.size + 1) s.heap.objs.size 0 .none → h'.IsTupleIter s.heap.objs.size l 0 → h'.objs.size = s.heap.objs.size + 2 →
      (∀ b o, s.heap.get? b = some o → h'.get? b = some o) → Q (.ref (s.heap.objs.size + 1)) { s with heap := h' }) :
    wpAny (model prog w) A (call (.type "enumerate") [.ref l]) Q E s := by
  obtain ⟨⟨c, dct, dt, sl⟩, hl, hc, n, hd⟩ := hL
  replace hc : c = .type "tuple" := hc
  replace hd : dt = .seq items n := hd
  subst hc hd
  refine callType_new F.called_enumerate (by decide) (F.typeCall_enumerate_1 _) (F.newCall_enumerate_1 _) (fun obj => F.args_object_init_2 obj _) F.entry_enumerate_new
    (meets_enumerate_newT l items n dct sl) ⟨hl, ?_⟩
  have hz : (s.heap.push { cls := .type "tuple_iterator", data := .fields #[.ref l, .int 0 0] }).objs.size = s.heap.objs.size + 1 := Heap.size_push ..
  show _ ∧ _
  rw [hz]
  have he : IsEnum ((s.heap.push { cls := .type "tuple_iterator", data := .fields #[.ref l, .int 0 0] }).push
      { cls := .type "enumerate", data := .fields #[.none, .bool false, .ref s.heap.objs.size, rawInt 0, .none, .none] }) (s.heap.objs.size + 1) s.heap.objs.size 0 .none := by
    have := Heap.get?_push_size (s.heap.push { cls := .type "tuple_iterator", data := .fields #[.ref l, .int 0 0] })
      (o := { cls := .type "enumerate", data := .fields #[.none, .bool false, .ref s.heap.objs.size, rawInt 0, .none, .none] }) rfl
    rw [hz] at this; exact this
  refine ⟨⟨_, he, rfl⟩, h _ he ⟨_, Heap.get?_push_of_some _ (Heap.get?_push_size _ rfl), rfl, rfl⟩ (by rw [Heap.size_push, hz]) fun b o x => Heap.get?_push_of_some _ (Heap.get?_push_of_some _ x)⟩
end
/-- what enumerate yields, over the list or tuple that Sq tells -/
def ItE (Sq : Hp → List V → Prop) : It :=
  ⟨fun i H => ∃ (xs : List V) (x : V), Sq H xs ∧ xs[i]? = some x, fun i H v H' => ∃ T o x, v = .ref T ∧ H T = none ∧ o.dict = none ∧ H' = upd H T (.frz o (.tup [.int (i : Nat), x])) ∧ ∀ xs, Sq H xs → xs[i]? = some x, fun i H => ∃ xs : List V, Sq H xs ∧ xs.length ≤ i⟩
/-- the pair that has been laid at p -/
theorem laid_pair {X : Cx} {pins : List (Addr × Obj)} {σ : L2.St} {H : Hp} {s : Shared} {h2 : Heap} {tk tk2 : Nat} {i : Nat} {x : V} {u : Value} {ch : List Addr} (I : Inv X pins σ H s) (ru : RelV x u)
    (k : ∀ b ob, b ∉ ch → s.heap.get? b = some ob → h2.get? b = some ob) (hf : ∀ b ∈ ch, FpOk X pins H b)
    (hT : h2.get? s.heap.objs.size = some { cls := .type "tuple", data := .seq #[.int i tk, u] }) :
    Inv X pins σ (L2.upd H s.heap.objs.size (.frz { cls := .type "tuple", data := .seq #[.int i tk, u] } (.tup [.int (i : Nat), x]))) { s with heap := h2, toks := tk2 } := by
  have new : ObjOk X.prog X.w (L2.upd H s.heap.objs.size (.frz { cls := .type "tuple", data := .seq #[.int i tk, u] } (.tup [.int (i : Nat), x]))) h2 s.heap.objs.size (.frz { cls := .type "tuple", data := .seq #[.int i tk, u] } (.tup [.int (i : Nat), x])) :=
    ⟨hT, by show 2 ≤ sizeLine; decide, [.int i tk, u], .cons ⟨_, rfl⟩ (.cons ru .nil), ⟨_, hT, rfl, _, rfl⟩⟩
  exact I.turnedNew (ch := ch) k hf (Nat.le_refl _) new
theorem turn_enumL {P : Program} {w : World} {K : PySem.W.Frag} {elts : List Expr} {kk : Nat} {tpos : Pos} (a e it : Addr) :
    Turn P w K (.Tuple elts kk tpos) (ItE fun H xs => SqL K H a xs) [e, it] e (fun i h => (∃ old, IsEnum h e it ((i : Nat) : Int) old) ∧ h.IsListIter it a i ∧ e ≠ it) where
  mem := by simp
  obj := fun i h st b hb => by
    obtain ⟨⟨old, he⟩, ⟨o, ho, hc, hd⟩, _⟩ := st
    have e' : b = e ∨ b = it := by simpa using hb
    rcases e' with z | z
    · rw [z]; exact ⟨_, he, fun v q => nomatch q⟩
    · rw [z]; exact ⟨o, ho, fun v q => by rw [hd] at q; cases q⟩
  keep := fun i h h' st k => let ⟨⟨old, he⟩, hi, hne⟩ := st; ⟨⟨old, k e (by simp) _ he⟩, hi.at fun o q => k it (by simp) o q, hne⟩
  item := by
    intro X hP hw hK hc i pins s σ H E I hf st hg
    subst hP hw hK
    obtain ⟨⟨old, he⟩, hit, hne⟩ := st
    obtain ⟨xs, x, hq, hx⟩ := hg
    obtain ⟨its, rv, p, hz⟩ := I.list hq
    obtain ⟨u, hu, ru⟩ := rv.get hx
    have hel : e < s.heap.objs.size := Heap.lt_size he
    have hil : it < s.heap.objs.size := by obtain ⟨_, q, _⟩ := hit; exact Heap.lt_size q
    refine wpAny_pyNext_enum_item he hit p.isList (x := u) (by simpa using hu) hne fun h' ho hit' hT hsz hk => ?_
    refine ⟨_, rfl, wpAny_letOwnedTupleGo_enum (s := { s with heap := h', toks := s.toks + 1 }) ho fun h'' he' sb => ?_⟩
    have hT2 : h''.get? s.heap.objs.size = some { cls := .type "tuple", data := .seq #[.int i s.toks, u] } := (sb.2 _ (Nat.ne_of_gt hel)).trans hT
    have I1 := laid_pair (tk2 := s.toks + 1) (ch := [e, it]) I ru (fun b ob hb q => (sb.2 b (fun z => hb (by simp [z]))).trans (hk b ob (fun z => hb (by simp [z])) (fun z => hb (by simp [z])) q)) hf hT2
    refine ⟨.ref s.heap.objs.size, _, I1, rfl, ⟨_, _, x, rfl, I.hok.fresh (Nat.le_refl _), rfl, rfl, fun ys hy => by rw [I.list_inj hy hq]; exact hx⟩, ⟨⟨u, ?_⟩, hit'.at fun o q => (sb.2 it (Ne.symm hne)).trans q, hne⟩, fun b hb => ?_⟩
    · have e1 : ((i + 1 : Nat) : Int) = (i : Int) + 1 := by omega
      rw [e1]; exact he'
    · have hb' : b < s.heap.objs.size := by
        have e' : b = e ∨ b = it := by simpa using hb
        rcases e' with z | z
        · rw [z]; exact hel
        · rw [z]; exact hil
      rw [upd_ne (Nat.ne_of_lt hb')]
      exact (hf b hb).1
  done := by
    intro X hP hw hK hc i pins s σ H E I hf st hg
    subst hP hw hK
    obtain ⟨⟨old, he⟩, hit, hne⟩ := st
    obtain ⟨xs, hq, hx⟩ := hg
    obtain ⟨its, rv, p, hz⟩ := I.list hq
    obtain ⟨f0, f1, f2, f3, f4, f5⟩ := hf it (by simp)
    have hl := rv.length
    exact wpAny_pyNext_enum_end (I.ok.hd hc) he hit p.isList (by simp; omega) fun h' eb => ⟨rfl, I.turned (t' := s.toks) (fun b o hb q => eb b o hb q) f0 f1 f3 f4 f5⟩
  self := fun A i s Q E st h => let ⟨⟨_, he⟩, _⟩ := st; wpAny_pyIter_enum he h
theorem turn_enumT {P : Program} {w : World} {K : PySem.W.Frag} {elts : List Expr} {kk : Nat} {tpos : Pos} (a e it : Addr) :
    Turn P w K (.Tuple elts kk tpos) (ItE fun H xs => SqT K H a xs) [e, it] e (fun i h => (∃ old, IsEnum h e it ((i : Nat) : Int) old) ∧ h.IsTupleIter it a i ∧ e ≠ it ∧ a ≠ it ∧ a ≠ e) where
  mem := by simp
  obj := fun i h st b hb => by
    obtain ⟨⟨old, he⟩, ⟨o, ho, hc, hd⟩, _⟩ := st
    have e' : b = e ∨ b = it := by simpa using hb
    rcases e' with z | z
    · rw [z]; exact ⟨_, he, fun v q => nomatch q⟩
    · rw [z]; exact ⟨o, ho, fun v q => by rw [hd] at q; cases q⟩
  keep := fun i h h' st k => let ⟨⟨old, he⟩, hi, hne⟩ := st; ⟨⟨old, k e (by simp) _ he⟩, at_tit hi fun o q => k it (by simp) o q, hne⟩
  item := by
    intro X hP hw hK hc i pins s σ H E I hf st hg
    subst hP hw hK
    obtain ⟨⟨old, he⟩, hit, hne, hai, hae⟩ := st
    obtain ⟨xs, x, hq, hx⟩ := hg
    obtain ⟨its, rv, p, hz⟩ := I.tuple hq
    obtain ⟨u, hu, ru⟩ := rv.get hx
    have hel : e < s.heap.objs.size := Heap.lt_size he
    have hil : it < s.heap.objs.size := by obtain ⟨_, q, _⟩ := hit; exact Heap.lt_size q
    have hlt : i < its.toArray.size := by simpa using (List.getElem?_eq_some_iff.mp hu).1
    refine wpAny_pyNext_enum_itemD (drawsTuple (A := X.A.in1) (I.ok.hd hc) it a hai its.toArray) he ⟨hit, p⟩ hlt hne (by simp [hne, Ne.symm hae]) fun y h' tk hy ho hit' hT hsz hk => ?_
    have hyu : y = u := by
      have h1 : its[i]? = some y := by simpa using hy
      rw [hu] at h1; exact (Option.some.inj h1).symm
    subst hyu
    refine ⟨_, rfl, wpAny_letOwnedTupleGo_enum (s := { s with heap := h', toks := tk + 1 }) ho fun h'' he' sb => ?_⟩
    have hT2 : h''.get? s.heap.objs.size = some { cls := .type "tuple", data := .seq #[.int i tk, y] } := (sb.2 _ (Nat.ne_of_gt hel)).trans hT
    have I1 := laid_pair (tk2 := tk + 1) (ch := [e, it]) I ru (fun b ob hb q => (sb.2 b (fun z => hb (by simp [z]))).trans (hk b ob (fun z => hb (by simp [z])) (fun z => hb (by simp [z])) q)) hf hT2
    refine ⟨.ref s.heap.objs.size, _, I1, rfl, ⟨_, _, x, rfl, I.hok.fresh (Nat.le_refl _), rfl, rfl, fun ys hy => by rw [I.tuple_inj hy hq]; exact hx⟩, ⟨⟨y, ?_⟩, at_tit hit'.1 fun o q => (sb.2 it (Ne.symm hne)).trans q, hne, hai, hae⟩, fun b hb => ?_⟩
    · have e1 : ((i + 1 : Nat) : Int) = (i : Int) + 1 := by omega
      rw [e1]; exact he'
    · have hb' : b < s.heap.objs.size := by
        have e' : b = e ∨ b = it := by simpa using hb
        rcases e' with z | z
        · rw [z]; exact hel
        · rw [z]; exact hil
      rw [upd_ne (Nat.ne_of_lt hb')]
      exact (hf b hb).1
  done := by
    intro X hP hw hK hc i pins s σ H E I hf st hg
    subst hP hw hK
    obtain ⟨⟨old, he⟩, hit, hne, hai, hae⟩ := st
    obtain ⟨xs, hq, hx⟩ := hg
    obtain ⟨its, rv, p, hz⟩ := I.tuple hq
    obtain ⟨f0, f1, f2, f3, f4, f5⟩ := hf it (by simp)
    have hl := rv.length
    have hT : s.TypeIs (.ref e) "enumerate" := ⟨_, he, rfl⟩
    unfold pyNext
    refine wpAny_bind (wpAny_attempt (wpAny_callSpecial?_slot (name := Str.ofString "__next__") hT F.slot_enumerate_next
      (wpAny_call_entry F.slot_enumerate_next hT F.entry_enumerate_next ?_ (F.args_enumerate_next_1 _))))
    show wpAny _ _ (field (.ref e) 2 >>= _) _ _ _
    refine wpAny_bind (wpAny_field he rfl (x := .ref it) rfl ?_)
    refine wpAny_bind (nextOf_tuple_end (I.ok.hd hc) hit p (by simp; omega) fun h' x he' hx' => ?_)
    obtain ⟨o, ho, hc'⟩ := hx'
    refine wpAny_bind (wpAny_isInstance (T := "StopIteration") (b := true) ⟨o, ho, hc'⟩ isSubtype_stop ?_)
    exact wpAny_pure ⟨rfl, I.turned (t' := s.toks) (fun b o hb q => he' b o hb q) f0 f1 f3 f4 f5⟩
  self := fun A i s Q E st h => let ⟨⟨_, he⟩, _⟩ := st; wpAny_pyIter_enum he h
def iEnumA (K : PySem.W.Frag) (ta : TA) : TI := fun σ H R => ta σ H fun vs H1 => ∃ a xs, vs = [.ref a] ∧ ((SqL K H1 a xs ∧ R (ItE fun H xs => SqL K H a xs) H1) ∨ (SqT K H1 a xs ∧ R (ItE fun H xs => SqT K H a xs) H1))
theorem pi_enumA {X : Cx} {e : Expr} {ta : TA} {p pos tpos : Pos} {elts : List Expr} {kk : Nat} (hg : Gl X "enumerate") (hm : X.mg "enumerate" = none) (ha : PA X [e] ta) (hs : starEach [e] X.env = [(false, eval e X.env)]) :
    PI X (.Tuple elts kk tpos) (.Call (.Name "enumerate" p) [e] [] pos) (iEnumA X.K ta) := by
  refine ⟨fun pins s σ H R I h => ?_⟩
  refine Call_ (ld_blt I hg hm boot_enumerate (PyProof.Rows.callWith_type1 (thn (ha.run pos pins s σ H _ I h) fun us s1 ⟨vs, H1, I1, r1, q1⟩ => ?_) hs rfl))
  obtain ⟨a, xs, ex, q⟩ := q1
  subst ex
  cases r1 with
  | cons r rr =>
    cases rr
    cases r
    have fr : ∀ b ∈ [s1.heap.objs.size + 1, s1.heap.objs.size], FpOk X pins H1 b := fun b hb => by
      have e' : b = s1.heap.objs.size + 1 ∨ b = s1.heap.objs.size := by simpa using hb
      have hle : s1.heap.objs.size ≤ b := by
        rcases e' with z | z
        · rw [z]; exact Nat.le_add_right _ _
        · rw [z]; exact Nat.le_refl _
      exact I1.fpOk hle (I1.hok.fresh hle)
    rcases q with ⟨hq, q⟩ | ⟨hq, q⟩
    · obtain ⟨its, rv, p', hz⟩ := I1.list hq
      refine call_enumerate_list p'.isList fun h' he hit hsz hk => wpAny_pyIter_enum he ?_
      have I2 : Inv X pins σ H1 { s1 with heap := h' } := I1.kept (t' := s1.toks) hk
      exact ⟨s1.heap.objs.size + 1, [s1.heap.objs.size + 1, s1.heap.objs.size], _, _, H1, rfl, I2, turn_enumL a (s1.heap.objs.size + 1) s1.heap.objs.size, ⟨⟨.none, he⟩, hit, Nat.succ_ne_self _⟩, fr, q⟩
    · obtain ⟨its, rv, p', hz⟩ := I1.tuple hq
      have hal : a < s1.heap.objs.size := by obtain ⟨_, z, _⟩ := p'; exact Heap.lt_size z
      refine call_enumerate_tuple (show s1.heap.IsTuple a its.toArray from p') fun h' he hit hsz hk => wpAny_pyIter_enum he ?_
      have I2 : Inv X pins σ H1 { s1 with heap := h' } := I1.kept (t' := s1.toks) hk
      exact ⟨s1.heap.objs.size + 1, [s1.heap.objs.size + 1, s1.heap.objs.size], _, _, H1, rfl, I2, turn_enumT a (s1.heap.objs.size + 1) s1.heap.objs.size, ⟨⟨.none, he⟩, hit, Nat.succ_ne_self _, Nat.ne_of_lt hal, Nat.ne_of_lt (Nat.lt_succ_of_lt hal)⟩, fr, q⟩
end Ev
/-! Ev5: one lemma a construct: names, constants, displays, operators, tests, items, slices. -/
namespace Ev
open PySem PySem.Spec PyProof.Rows L2

theorem _root_.L2.PE.imp' {X : Cx} {e : Expr} {t t' : TE} (h : PE X e t) (i : ∀ σ H Q, t' σ H Q → t σ H Q) : PE X e t' := ⟨fun pins s σ H Q I q => h.run pins s σ H Q I (i _ _ _ q)⟩
theorem _root_.L2.PT.imp' {X : Cx} {e : Expr} {t t' : TT} (h : PT X e t) (i : ∀ σ H Q, t' σ H Q → t σ H Q) : PT X e t' := ⟨fun pins s σ H Q I q => h.run pins s σ H Q I (i _ _ _ q)⟩
theorem _root_.L2.PW.imp' {X : Cx} {e : Expr} {t t' : TT} (h : PW X e t) (i : ∀ σ H Q, t' σ H Q → t σ H Q) : PW X e t' := ⟨fun wh pins s σ H Q I q => h.run wh pins s σ H Q I (i _ _ _ q)⟩
theorem _root_.L2.PA.imp' {X : Cx} {e : List Expr} {t t' : TA} (h : PA X e t) (i : ∀ σ H Q, t' σ H Q → t σ H Q) : PA X e t' := ⟨fun p pins s σ H Q I q => h.run p pins s σ H Q I (i _ _ _ q)⟩
theorem _root_.L2.PO.imp' {X : Cx} {e : Option Expr} {t t' : TO} (h : PO X e t) (i : ∀ σ H Q, t' σ H Q → t σ H Q) : PO X e t' := ⟨fun pins s σ H Q I q => h.run pins s σ H Q I (i _ _ _ q)⟩

section
variable {X : Cx} {z : W0} {W : WX} {φ φ' : List Addr} {S S' : Sto} {H H' : Hp} {ls : Loc} {σ : L2.St}
/-- what a result is asked to give -/
def gives (K : PySem.W.Frag) (mg : Str → Option Value) (z : W0) (W : WX) (σ : L2.St) (φ : List Addr) (S : Sto) (H : Hp) (Q : VK) (r : Res D) : Prop := match r with
  | .ok d S' => eOk K z φ S S' H d Q
  | .exc c fs S' => eEx K mg z W σ S' c fs
  | .bad => False
theorem up_iff {K : PySem.W.Frag} {mg : Str → Option Value} {w : Loc → Sto → Res D} {Q : VK} : up K mg z W w σ H Q ↔ ∃ φ S ls, Here K z φ S ls σ H ∧ gives K mg z W σ φ S H Q (w ls S) := Iff.rfl
/-- one thing behind another, whatever comes in the end -/
theorem up_seq {K : PySem.W.Frag} {mg : Str → Option Value} {β : Type} {w : Loc → Sto → Res D} {f : D → Sto → Res β} {G : List Addr → Sto → Hp → Res β → Prop} {Q' : VK} (h : Here K z φ S ls σ H) (hg : G φ S H ((w ls S).bd f))
    (gb : ∀ φ S H, G φ S H .bad → False) (ge : ∀ φ S H c fs S', G φ S H (.exc c fs S') → eEx K mg z W σ S' c fs)
    (hq : ∀ d S1 φ1 H1 v, w ls S = .ok d S1 → Stp φ S H φ1 S1 H1 → Here K z φ1 S1 ls σ H1 → Rep K φ1 (LB φ1 S1 z.B) H1 d v → G φ S H (f d S1) → Q' v H1) : up K mg z W w σ H Q' := by
  refine ⟨φ, S, ls, h, ?_⟩
  cases e : w ls S with
  | bad => rw [e] at hg; exact gb _ _ _ hg
  | exc c fs S' => rw [e] at hg; exact ge _ _ _ _ _ _ hg
  | ok d S1 =>
    rw [e] at hg
    exact fun φ1 H1 v st wd rp => hq d S1 φ1 H1 v e st (h.step st wd) rp hg
theorem gives_bad {K : PySem.W.Frag} {mg : Str → Option Value} {Q : VK} : gives K mg z W σ φ S H Q .bad → False := id
theorem gives_step {K : PySem.W.Frag} {mg : Str → Option Value} {Q : VK} {r : Res D} (st : Stp φ S H φ' S' H') (h : gives K mg z W σ φ S H Q r) : gives K mg z W σ φ' S' H' Q r := by
  cases r with
  | bad => exact h
  | exc c fs S2 => exact h
  | ok d S2 => exact fun φ2 H2 v st2 => h φ2 H2 v (st.trans st2)
/-- the end: a value that needs nothing of the store -/
theorem gives_ok {K : PySem.W.Frag} {mg : Str → Option Value} {Q : VK} {d : D} {v : V} (h : Here K z φ S ls σ H) (g : gives K mg z W σ φ S H Q (.ok d S)) (r : Rep K φ (LB φ S z.B) H d v) : Q v H := g φ H v Stp.refl h.w r
/-- .. a new tracked thing at p -/
theorem gives_new {K : PySem.W.Frag} {mg : Str → Option Value} {Q : VK} {d : D} {p : Addr} {o : HO} (h : Here K z φ S ls σ H) (g : gives K mg z W σ φ S H Q (.ok d S)) (hp : H p = none) (r : Rep K φ (LB φ S z.B) (upd H p o) d (.ref p)) : Q (.ref p) (upd H p o) :=
  g φ _ _ (Stp.upd hp) (h.w.upd hp) r

/-! ### names and constants -/
theorem pe_varD {i : Nat} {x : Str} {pos : Pos} (hN : X.N[i]? = some x) (hv : Vis X.env.scope x) (hd : (x == ("__debug__" : Str)) = false) (hcd : (x == ("__classdict__" : Str)) = false) :
    PE X (.Name x pos) (up X.K X.mg z W fun ls S => match ls[i]? with
      | some (some d) => .ok d S
      | _ => .bad) := (pe_var hN hv hd hcd).imp' fun σ H Q h => by
  obtain ⟨φ, S, ls, h, g⟩ := h
  try dsimp only at g
  cases e : ls[i]? with
  | none => rw [e] at g; exact g.elim
  | some o =>
    cases o with
    | none => rw [e] at g; exact g.elim
    | some d =>
      rw [e] at g
      obtain ⟨v, e1, r⟩ := h.get e
      exact ⟨v, e1, g φ H v Stp.refl h.w r⟩
/-- a constant -/
def conB (d : D) (c : Const) : Bool := match d, c with
  | .non, .none => true
  | .bl b, .bool b' => b == b'
  | .int i, .int j => i == j
  | .str s, .str x => s == x.cps.toList
  | _, _ => false
theorem pe_conD {d : D} {c : Const} {k : Nat} {pos : Pos} (h : conB d c = true) : PE X (.Constant c k pos) (up X.K X.mg z W fun _ S => .ok d S) := by
  have go : ∀ {v : V} {t : TE}, PE X (.Constant c k pos) t → (∀ σ H Q, Q v H → t σ H Q) → (∀ φ L H, Rep X.K φ L H d v) → PE X (.Constant c k pos) (up X.K X.mg z W fun _ S => .ok d S) := fun {v t} p ht hr => p.imp' fun σ H Q h => by
    obtain ⟨φ, S, ls, h, g⟩ := h
    exact ht _ _ _ (g φ H v Stp.refl h.w (hr _ _ _))
  unfold conB at h
  split at h
  · exact go pe_non (fun _ _ _ q => q) fun _ _ _ => .non
  · rename_i b b'
    have e : b = b' := by simpa using h
    subst e
    exact go pe_bl (fun _ _ _ q => q) fun _ _ _ => .bl b
  · rename_i i j
    have e : i = j := by simpa using h
    subst e
    exact go pe_int (fun _ _ _ q => q) fun _ _ _ => .int i
  · rename_i s x
    have e : s = x.cps.toList := by simpa using h
    subst e
    exact go pe_str (fun _ _ _ q => q) fun _ _ _ => .str x.cps.toList
  · cases h
theorem pe_glbD {x : Str} {o : Option D} {pos : Pos} (hg : Gl X x) (hdb : (x == ("__debug__" : Str)) = false) (h : ∀ d, o = some d → ∃ u v, X.mg x = some u ∧ RelV v u ∧ ∀ φ L H, Rep X.K φ L H d v) :
    PE X (.Name x pos) (up X.K X.mg z W fun _ S => ofO S o) := by
  cases o with
  | none => exact ⟨fun pins s σ H Q I h => by obtain ⟨φ, S, ls, h, g⟩ := h; exact g.elim⟩
  | some d =>
    obtain ⟨u, v, e1, r, k⟩ := h d rfl
    refine (pe_glob hg e1 r hdb).imp' fun σ H Q h => ?_
    obtain ⟨φ, S, ls, h, g⟩ := h
    exact g φ H v Stp.refl h.w (k _ _ _)

/-! ### argument lists, displays -/
theorem pa_nilD : PA X [] (upA X.K X.mg z W fun _ S => .ok [] S) := pa_nil.imp' fun σ H Q h => by
  obtain ⟨φ, S, ls, h, g⟩ := h
  exact g φ H [] Stp.refl h.w .nil
theorem pa_consD {e : Expr} {es : List Expr} {w : Loc → Sto → Res D} {ws : Loc → Sto → Res (List D)} (ha : PE X e (up X.K X.mg z W w)) (hr : PA X es (upA X.K X.mg z W ws)) (hs : starEach (e :: es) X.env = (false, eval e X.env) :: starEach es X.env) :
    PA X (e :: es) (upA X.K X.mg z W fun ls S => (w ls S).bd fun d S1 => (ws ls S1).bd fun ds S2 => .ok (d :: ds) S2) := (pa_cons ha hr hs).imp' fun σ H Q h => by
  obtain ⟨φ, S, ls, h, g⟩ := h
  refine up_seq (G := fun φ S H (r : Res (List D)) => match r with
    | .ok ds S' => ∀ φ' H' vs, Stp φ S H φ' S' H' → Wld X.K φ' S' H' z.B → Reps X.K φ' (LB φ' S' z.B) H' ds vs → Q vs H'
    | .exc c fs S' => eEx X.K X.mg z W σ S' c fs
    | .bad => False) h g (fun _ _ _ h => h) (fun _ _ _ _ _ _ h => h) fun d S1 φ1 H1 v _ st1 h1 r1 g1 => ?_
  refine ⟨φ1, S1, ls, h1, ?_⟩
  cases e2 : ws ls S1 with
  | bad => rw [e2] at g1; exact g1
  | exc c fs S' => rw [e2] at g1; exact g1
  | ok ds S2 =>
    rw [e2] at g1
    intro φ2 H2 vs st2 wd r2
    exact g1 φ2 H2 (v :: vs) (st1.trans st2) wd (.cons (r1.step st2) r2)
theorem sz_eq : (sizeLine : Nat) = 16777216 := sizeLine_eq
theorem pe_tupD {es : List Expr} {ws : Loc → Sto → Res (List D)} {k : Nat} {pos : Pos} (h : PA X es (upA X.K X.mg z W ws)) :
    PE X (.Tuple es k pos) (up X.K X.mg z W fun ls S => (ws ls S).bd fun ds S1 => if ds.length ≤ 16777216 then .ok (.tup ds) S1 else .bad) := (pe_tupF h).imp' fun σ H Q h => by
  obtain ⟨φ, S, ls, h, g⟩ := h
  try dsimp only at g
  refine ⟨φ, S, ls, h, ?_⟩
  cases e2 : ws ls S with
  | bad => rw [e2] at g; exact g
  | exc c fs S' => rw [e2] at g; exact g
  | ok ds S2 =>
    rw [e2] at g
    intro φ2 H2 vs st2 wd r2
    simp only [Res.bd_ok] at g
    by_cases hl : ds.length ≤ 16777216
    · rw [if_pos hl] at g
      refine ⟨by rw [← r2.length, sz_eq]; exact hl, fun p o hp hd => ?_⟩
      exact g φ2 _ _ (st2.trans (Stp.upd hp)) (wd.upd hp) (Rep.newTup wd r2 hp hd)
    · rw [if_neg hl] at g; exact g.elim
theorem pe_lstD {es : List Expr} {ws : Loc → Sto → Res (List D)} {pos : Pos} (h : PA X es (upA X.K X.mg z W ws)) :
    PE X (.List es pos) (upN X.K X.mg z W fun ls S => (ws ls S).bd fun ds S1 => if ds.length ≤ 16777216 then .ok (.lst ds) S1 else .bad) := (pe_lst h).imp' fun σ H Q h => by
  obtain ⟨φ, S, ls, h, g⟩ := h
  try dsimp only at g
  refine ⟨φ, S, ls, h, ?_⟩
  cases e2 : ws ls S with
  | bad => rw [e2] at g; exact g
  | exc c fs S' => rw [e2] at g; exact g
  | ok ds S2 =>
    rw [e2] at g
    intro φ2 H2 vs st2 wd r2
    simp only [Res.bd_ok] at g
    by_cases hl : ds.length ≤ 16777216
    · rw [if_pos hl] at g
      refine ⟨by rw [← r2.length, sz_eq]; exact hl, fun p hp => ?_⟩
      exact g φ2 H2 p vs st2 wd r2 hp
    · rw [if_neg hl] at g; exact g.elim
/-- new, and nobody changes it any more -/
theorem _root_.L2.PE.old {e : Expr} {w : Loc → Sto → Res D} (h : PE X e (upN X.K X.mg z W w)) : PE X e (up X.K X.mg z W w) := h.imp' fun σ H Q h => by
  obtain ⟨φ, S, ls, h, g⟩ := h
  try dsimp only at g
  refine ⟨φ, S, ls, h, ?_⟩
  cases e2 : w ls S with
  | bad => rw [e2] at g; exact g
  | exc c fs S' => rw [e2] at g; exact g
  | ok d S2 =>
    rw [e2] at g
    cases d with
    | lst xs => exact fun φ1 H1 p vs st wd r hp => g φ1 _ _ (st.trans (Stp.upd hp)) (wd.upd hp) (Rep.newLst wd r hp)
    | _ => exact g
/-- new, and of the store -/
theorem _root_.L2.PE.live {e : Expr} {w : Loc → Sto → Res D} (h : PE X e (upN X.K X.mg z W w)) : PE X e (up X.K X.mg z W fun ls S => (w ls S).bd fun d S1 => match d with
    | .lst xs => .ok (.loc S1.length) (S1 ++ [.lst xs])
    | _ => .bad) := h.imp' fun σ H Q h => by
  obtain ⟨φ, S, ls, h, g⟩ := h
  try dsimp only at g
  refine ⟨φ, S, ls, h, ?_⟩
  cases e2 : w ls S with
  | bad => rw [e2] at g; exact g
  | exc c fs S' => rw [e2] at g; exact g
  | ok d S2 =>
    rw [e2] at g
    cases d with
    | lst xs =>
      intro φ1 H1 p vs st wd r hp
      refine g (φ1 ++ [p]) _ _ (st.trans (Stp.newLoc wd.len hp)) (wd.newLoc hp (.lst r)) (.loc ?_)
      rw [← wd.len]; exact get_snoc_r
    | _ => exact g.elim

/-! ### operators, by values -/
/-- what an operation on data promises -/
def opN (K : PySem.W.Frag) (z : W0) (f : Sto → D → D → Option D) : R2 := fun x y H Q => ∃ φ S a b d, Wld K φ S H z.B ∧ Rep K φ (LB φ S z.B) H a x ∧ Rep K φ (LB φ S z.B) H b y ∧ f S a b = some d ∧ eNew K z φ S S H d Q
def opU (K : PySem.W.Frag) (z : W0) (f : Sto → D → D → Option D) : R2 := fun x y H Q => ∃ φ S a b d, Wld K φ S H z.B ∧ Rep K φ (LB φ S z.B) H a x ∧ Rep K φ (LB φ S z.B) H b y ∧ f S a b = some d ∧ eOk K z φ S S H d Q
theorem tOp_up {ta tb : Loc → Sto → Res D} {f : Sto → D → D → Option D} {σ : L2.St} {H : Hp} {Q : VK}
    (h : up X.K X.mg z W (fun ls S => (ta ls S).bd fun x S1 => (tb ls S1).bd fun y S2 => ofO S2 (f S2 x y)) σ H Q) : tOp (opU X.K z f) (up X.K X.mg z W ta) (up X.K X.mg z W tb) σ H Q := by
  obtain ⟨φ, S, ls, h, g⟩ := h
  refine up_seq (G := fun φ S H r => gives X.K X.mg z W σ φ S H Q r) h g (fun _ _ _ h => h) (fun _ _ _ _ _ _ h => h) fun d S1 φ1 H1 v _ st1 h1 r1 g1 => ?_
  refine up_seq (G := fun φ S H r => gives X.K X.mg z W σ φ S H Q r) h1 (gives_step st1 g1) (fun _ _ _ h => h) (fun _ _ _ _ _ _ h => h) fun d2 S2 φ2 H2 v2 _ st2 h2 r2 g2 => ?_
  have g3 := gives_step st2 g2
  cases e : f S2 d d2 with
  | none => rw [e] at g3; exact g3.elim
  | some u =>
    rw [e] at g3
    exact ⟨φ2, S2, d, d2, u, h2.w, r1.step st2, r2, e, g3⟩
def givesN (K : PySem.W.Frag) (mg : Str → Option Value) (z : W0) (W : WX) (σ : L2.St) (φ : List Addr) (S : Sto) (H : Hp) (Q : VK) (r : Res D) : Prop := match r with
  | .ok d S' => eNew K z φ S S' H d Q
  | .exc c fs S' => eEx K mg z W σ S' c fs
  | .bad => False
theorem eNew_step {K : PySem.W.Frag} {Q : VK} {d : D} {S2 : Sto} (st : Stp φ S H φ' S' H') (h : eNew K z φ S S2 H d Q) : eNew K z φ' S' S2 H' d Q := by
  cases d with
  | lst xs => exact fun φ1 H1 p vs st2 => h φ1 H1 p vs (st.trans st2)
  | _ => exact fun φ2 H2 v st2 => h φ2 H2 v (st.trans st2)
theorem givesN_step {K : PySem.W.Frag} {mg : Str → Option Value} {Q : VK} {r : Res D} (st : Stp φ S H φ' S' H') (h : givesN K mg z W σ φ S H Q r) : givesN K mg z W σ φ' S' H' Q r := by
  cases r with
  | bad => exact h
  | exc c fs S2 => exact h
  | ok d S2 => exact eNew_step st h
theorem tOp_upN {ta tb : Loc → Sto → Res D} {f : Sto → D → D → Option D} {σ : L2.St} {H : Hp} {Q : VK}
    (h : upN X.K X.mg z W (fun ls S => (ta ls S).bd fun x S1 => (tb ls S1).bd fun y S2 => ofO S2 (f S2 x y)) σ H Q) : tOp (opN X.K z f) (up X.K X.mg z W ta) (up X.K X.mg z W tb) σ H Q := by
  obtain ⟨φ, S, ls, h, g⟩ := h
  refine up_seq (G := fun φ S H r => givesN X.K X.mg z W σ φ S H Q r) h g (fun _ _ _ h => h) (fun _ _ _ _ _ _ h => h) fun d S1 φ1 H1 v _ st1 h1 r1 g1 => ?_
  refine up_seq (G := fun φ S H r => givesN X.K X.mg z W σ φ S H Q r) h1 (givesN_step st1 g1) (fun _ _ _ h => h) (fun _ _ _ _ _ _ h => h) fun d2 S2 φ2 H2 v2 _ st2 h2 r2 g2 => ?_
  have g3 := givesN_step st2 g2
  cases e : f S2 d d2 with
  | none => rw [e] at g3; exact g3.elim
  | some u =>
    rw [e] at g3
    exact ⟨φ2, S2, d, d2, u, h2.w, r1.step st2, r2, e, g3⟩
theorem _root_.L2.OpR.imp' {f : Value → Value → Sem Value} {r r' : R2} (h : OpR X f r) (i : ∀ x y H Q, r' x y H Q → r x y H Q) : OpR X f r' := fun pins s σ H x y v u Q I rx ry q => h pins s σ H x y v u Q I rx ry (i _ _ _ _ q)
end
end Ev
/-! Ev6: what the operations on data are worth: truth, ==, in, +, *, items, slices. -/
namespace Ev
open PySem PySem.Spec PyProof.Rows L2

/-! ### data and the library's data -/
mutual
theorem eqv_py : ∀ a b : D, a.pur = true → b.pur = true → PyData.eqv a.toPy b.toPy = deqv a b
  | .non, b, _, hb => by cases b <;> first | rfl | (simp [D.pur] at hb)
  | .bl x, b, _, hb => by cases b <;> first | rfl | (simp [D.pur] at hb)
  | .int x, b, _, hb => by cases b <;> first | rfl | (simp [D.pur] at hb)
  | .str x, b, _, hb => by
    cases b with
    | str y =>
      show ((⟨x.toArray⟩ : Str) == ⟨y.toArray⟩) = (x == y)
      rw [Bool.eq_iff_iff]
      simp
    | dic _ _ => simp [D.pur] at hb
    | loc _ => simp [D.pur] at hb
    | ro _ => simp [D.pur] at hb
    | _ => rfl
  | .lst xs, b, ha, hb => by
    cases b with
    | lst ys => exact eqvs_py xs ys (by simpa [D.pur] using ha) (by simpa [D.pur] using hb)
    | dic _ _ => simp [D.pur] at hb
    | loc _ => simp [D.pur] at hb
    | ro _ => simp [D.pur] at hb
    | _ => rfl
  | .tup xs, b, ha, hb => by
    cases b with
    | tup ys => exact eqvs_py xs ys (by simpa [D.pur] using ha) (by simpa [D.pur] using hb)
    | dic _ _ => simp [D.pur] at hb
    | loc _ => simp [D.pur] at hb
    | ro _ => simp [D.pur] at hb
    | _ => rfl
  | .dic _ _, _, ha, _ => by simp [D.pur] at ha
  | .loc _, _, ha, _ => by simp [D.pur] at ha
  | .ro _, _, ha, _ => by simp [D.pur] at ha
theorem eqvs_py : ∀ xs ys : List D, purs xs = true → purs ys = true → PyData.eqvAll (toPys xs) (toPys ys) = deqvs xs ys
  | [], [], _, _ => rfl
  | [], _ :: _, _, _ => rfl
  | _ :: _, [], _, _ => rfl
  | x :: xs, y :: ys, ha, hb => by
    simp only [purs, Bool.and_eq_true] at ha hb
    show (PyData.eqv x.toPy y.toPy && PyData.eqvAll (toPys xs) (toPys ys)) = (deqv x y && deqvs xs ys)
    rw [eqv_py x y ha.1 hb.1, eqvs_py xs ys ha.2 hb.2]
end
mutual
theorem plain_py : ∀ a : D, a.toPy.plain = true
  | .non => rfl | .bl _ => rfl | .int _ => rfl | .str _ => rfl | .dic _ _ => rfl | .loc _ => rfl | .ro _ => rfl
  | .tup xs => plains_py xs
  | .lst xs => plains_py xs
theorem plains_py : ∀ a : List D, PyData.plainAll (toPys a) = true
  | [] => rfl
  | x :: xs => by
    show (PyData.plain x.toPy && PyData.plainAll (toPys xs)) = true
    rw [plain_py x, plains_py xs]; rfl
end
mutual
theorem dep_py : ∀ a : D, a.toPy.depth = a.dep
  | .non => rfl | .bl _ => rfl | .int _ => rfl | .str _ => rfl | .dic _ _ => rfl | .loc _ => rfl | .ro _ => rfl
  | .tup xs => by show PyData.depthAll (toPys xs) + 1 = deps xs + 1; rw [deps_py xs]
  | .lst xs => by show PyData.depthAll (toPys xs) + 1 = deps xs + 1; rw [deps_py xs]
theorem deps_py : ∀ a : List D, PyData.depthAll (toPys a) = deps a
  | [] => rfl
  | x :: xs => by
    show max (PyData.depth x.toPy) (PyData.depthAll (toPys xs)) = max x.dep (deps xs)
    rw [dep_py x, deps_py xs]
end
theorem toPys_map (xs : List D) : toPys xs = xs.map D.toPy := by
  induction xs with
  | nil => rfl
  | cons x xs ih => show x.toPy :: toPys xs = _; rw [ih]; rfl

section
variable {X : Cx} {pins : List (Addr × Obj)} {σ : L2.St} {H : Hp} {s : Shared} {φ : List Addr} {L : Addr → Prop} {z : W0} {S : Sto}
mutual
theorem Rep.reads (I : Inv X pins σ H s) : ∀ (d : D) (v : V) (u : Value), d.pur = true → Rep X.K φ L H d v → RelV v u → ∃ as, Reads s.heap u d.toPy as
  | .non, _, _, _, h, r => by cases h; cases r; exact ⟨_, .none⟩
  | .bl b, _, _, _, h, r => by cases h; cases r; exact ⟨_, .bool b⟩
  | .int i, _, _, _, h, r => by cases h; obtain ⟨t, rfl⟩ := r; exact ⟨_, .int i t⟩
  | .str x, _, _, _, h, r => by cases h; obtain ⟨t, rfl⟩ := r; exact ⟨_, .str _ t⟩
  | .tup xs, _, _, hp, h, r => by
    cases h with
    | tup hf hr =>
      cases r
      obtain ⟨its, rv, ⟨o, ho, hc, n, hd⟩, _⟩ := I.tuple hf.sq
      obtain ⟨as, q⟩ := Reps.reads I xs _ _ (by simpa [D.pur] using hp) hr rv
      exact ⟨_, .tuple ho hc hd (by simpa using q)⟩
  | .lst xs, _, _, hp, h, r => by
    cases h with
    | lst hf hr =>
      cases r
      obtain ⟨its, rv, ⟨o, n, ho, hc, _, hd⟩, _⟩ := I.list hf.sq
      obtain ⟨as, q⟩ := Reps.reads I xs _ _ (by simpa [D.pur] using hp) hr rv
      exact ⟨_, .list ho hc hd (by simpa using q)⟩
  | .dic _ _, _, _, hp, _, _ => by simp [D.pur] at hp
  | .loc _, _, _, hp, _, _ => by simp [D.pur] at hp
  | .ro _, _, _, hp, _, _ => by simp [D.pur] at hp
theorem Reps.reads (I : Inv X pins σ H s) : ∀ (ds : List D) (vs : List V) (us : List Value), purs ds = true → Reps X.K φ L H ds vs → Vals vs us → ∃ as, ReadsAll s.heap us (toPys ds) as
  | [], _, _, _, h, r => by cases h; cases r; exact ⟨_, .nil⟩
  | d :: ds, _, _, hp, h, r => by
    simp only [purs, Bool.and_eq_true] at hp
    cases h with
    | cons h1 h2 =>
      cases r with
      | cons r1 r2 =>
        obtain ⟨as, q1⟩ := Rep.reads I d _ _ hp.1 h1 r1
        obtain ⟨bs, q2⟩ := Reps.reads I ds _ _ hp.2 h2 r2
        exact ⟨_, .cons q1 q2⟩
end
/-- what may be read at a place of the store -/
theorem Rep.drf_lst (W : Wld X.K φ S H z.B) {d : D} {v : V} {xs : List D} (r : Rep X.K φ (LB φ S z.B) H d v) (e : drf S d = .lst xs) : ∃ a vs, v = .ref a ∧ H a = some (.lst vs) ∧ Reps X.K φ (LB φ S z.B) H xs vs := by
  cases d with
  | lst ys =>
    have e' : ys = xs := by simpa [drf] using e
    subst e'
    cases r with
    | lst hf hr => exact ⟨_, _, rfl, hf.1, hr⟩
  | loc l =>
    cases r with
    | loc hl =>
      unfold drf at e
      dsimp only at e
      split at e
      · rename_i ys hs
        have e' : ys = xs := by simpa using e
        subst e'
        obtain ⟨a, ho, h1, h2, h3⟩ := W.ob l _ hs (by simp)
        rw [hl] at h1; cases h1
        cases h3 with
        | lst r => exact ⟨_, _, rfl, h2, r⟩
      · cases e
      · cases e
  | non => cases e
  | bl _ => cases e
  | int _ => cases e
  | str _ => cases e
  | tup _ => cases e
  | dic _ _ => cases e
  | ro _ => cases e
theorem Rep.drf_tup (W : Wld X.K φ S H z.B) {d : D} {v : V} {xs : List D} (r : Rep X.K φ (LB φ S z.B) H d v) (e : drf S d = .tup xs) : ∃ a vs, v = .ref a ∧ FzT X.K H (LB φ S z.B) a vs ∧ Reps X.K φ (LB φ S z.B) H xs vs := by
  cases d with
  | tup ys =>
    have e' : ys = xs := by simpa [drf] using e
    subst e'
    cases r with
    | tup hf hr => exact ⟨_, _, rfl, hf, hr⟩
  | loc l =>
    unfold drf at e
    dsimp only at e
    split at e <;> cases e
  | non => cases e
  | bl _ => cases e
  | int _ => cases e
  | str _ => cases e
  | lst _ => cases e
  | dic _ _ => cases e
  | ro _ => cases e
theorem Rep.drf_dic (W : Wld X.K φ S H z.B) {d : D} {v : V} {ks vs : List D} (r : Rep X.K φ (LB φ S z.B) H d v) (e : drf S d = .dic ks vs) :
    ∃ (a : Addr) (ws : List Key) (us : List V), v = .ref a ∧ H a = some (.dK (ws.zip us)) ∧ ks.map keyD = ws.map some ∧ Reps X.K φ (LB φ S z.B) H vs us ∧ ws.length = us.length := by
  cases d with
  | dic ks' vs' =>
    have e' : ks' = ks ∧ vs' = vs := by simpa [drf] using e
    obtain ⟨rfl, rfl⟩ := e'
    cases r with
    | dic hf hk hr hl => exact ⟨_, _, _, rfl, hf.1, hk, hr, hl⟩
  | loc l =>
    cases r with
    | loc hl =>
      unfold drf at e
      dsimp only at e
      split at e
      · cases e
      · rename_i ks' vs' hs
        have e' : ks' = ks ∧ vs' = vs := by simpa using e
        obtain ⟨rfl, rfl⟩ := e'
        obtain ⟨a, ho, h1, h2, h3⟩ := W.ob l _ hs (by simp)
        rw [hl] at h1; cases h1
        cases h3 with
        | dic hk r hl => exact ⟨_, _, _, rfl, h2, hk, r, hl⟩
      · cases e
  | non => cases e
  | bl _ => cases e
  | int _ => cases e
  | str _ => cases e
  | lst _ => cases e
  | tup _ => cases e
  | ro _ => cases e
theorem Rep.drf_ro (W : Wld X.K φ S H z.B) {d : D} {v : V} {xs : List D} (r : Rep X.K φ (LB φ S z.B) H d v) (e : drf S d = .ro xs) : ∃ a vs, v = .ref a ∧ FzR X.K H (LB φ S z.B) a vs ∧ Reps X.K φ (LB φ S z.B) H xs vs := by
  cases d with
  | ro ys =>
    have e' : ys = xs := by simpa [drf] using e
    subst e'
    cases r with
    | ro hf hr => exact ⟨_, _, rfl, hf, hr⟩
  | loc l =>
    unfold drf at e
    dsimp only at e
    split at e <;> cases e
  | non => cases e
  | bl _ => cases e
  | int _ => cases e
  | str _ => cases e
  | lst _ => cases e
  | tup _ => cases e
  | dic _ _ => cases e
/-- what stands in a list or tuple -/
theorem Rep.seq (W : Wld X.K φ S H z.B) {d : D} {v : V} {xs : List D} (r : Rep X.K φ (LB φ S z.B) H d v) (e : seqD S d = some xs) : ∃ a vs, v = .ref a ∧ (SqL X.K H a vs ∨ SqT X.K H a vs) ∧ Reps X.K φ (LB φ S z.B) H xs vs := by
  unfold seqD at e
  split at e
  · rename_i h; cases e
    obtain ⟨a, vs, rfl, hs, hr⟩ := r.drf_lst W h
    exact ⟨a, vs, rfl, .inl (.inl (.inl hs)), hr⟩
  · rename_i h; cases e
    obtain ⟨a, vs, rfl, hs, hr⟩ := r.drf_tup W h
    exact ⟨a, vs, rfl, .inr hs.sq, hr⟩
  · rename_i h; cases e
    obtain ⟨a, vs, rfl, hs, hr⟩ := r.drf_ro W h
    exact ⟨a, vs, rfl, .inl hs.sq, hr⟩
  · cases e
theorem drf_self {d : D} (h : ∀ l, d ≠ .loc l) : drf S d = d := by
  cases d with
  | loc l => exact absurd rfl (h l)
  | _ => rfl
theorem drf_str {d : D} {x : List Nat} (e : drf S d = .str x) : d = .str x := by
  cases d with
  | loc l => unfold drf at e; dsimp only at e; split at e <;> cases e
  | _ => simpa [drf] using e
theorem drf_int {d : D} {x : Int} (e : drf S d = .int x) : d = .int x := by
  cases d with
  | loc l => unfold drf at e; dsimp only at e; split at e <;> cases e
  | _ => simpa [drf] using e
theorem drf_bl {d : D} {x : Bool} (e : drf S d = .bl x) : d = .bl x := by
  cases d with
  | loc l => unfold drf at e; dsimp only at e; split at e <;> cases e
  | _ => simpa [drf] using e
theorem drf_non {d : D} (e : drf S d = .non) : d = .non := by
  cases d with
  | loc l => unfold drf at e; dsimp only at e; split at e <;> cases e
  | _ => simpa [drf] using e
/-- what is read there, as data -/
theorem Rep.readsD (I : Inv X pins σ H s) (W : Wld X.K φ S H z.B) {d : D} {v : V} {u : Value} (r : Rep X.K φ (LB φ S z.B) H d v) (rv : RelV v u) (hp : (drf S d).pur = true) : ∃ as, Reads s.heap u (drf S d).toPy as := by
  cases e : drf S d with
  | lst xs =>
    obtain ⟨a, vs, rfl, hs, hr⟩ := r.drf_lst W e
    cases rv
    obtain ⟨its, rv, ⟨o, n, ho, hc, _, hd⟩, _⟩ := I.list (SqL.of hs)
    rw [e] at hp
    obtain ⟨as, q⟩ := Reps.reads I xs _ _ (by simpa [D.pur] using hp) hr rv
    exact ⟨_, .list ho hc hd (by simpa using q)⟩
  | tup xs =>
    obtain ⟨a, vs, rfl, hs, hr⟩ := r.drf_tup W e
    rw [e] at hp
    exact Rep.reads I _ _ _ hp (.tup hs hr) rv
  | str x => rw [drf_str e] at r; exact Rep.reads I _ _ _ rfl r rv
  | int x => rw [drf_int e] at r; exact Rep.reads I _ _ _ rfl r rv
  | bl x => rw [drf_bl e] at r; exact Rep.reads I _ _ _ rfl r rv
  | non => rw [drf_non e] at r; exact Rep.reads I _ _ _ rfl r rv
  | dic _ _ => rw [e] at hp; simp [D.pur] at hp
  | loc _ => rw [e] at hp; simp [D.pur] at hp
  | ro _ => rw [e] at hp; simp [D.pur] at hp

/-! ### truth -/
theorem tru_rep (W : Wld X.K φ S H z.B) {d : D} {v : V} {k : Bool} (r : Rep X.K φ (LB φ S z.B) H d v) (e : truD S d = some k) : TruV X.K v H k := by
  unfold truD at e
  split at e
  · rename_i h; rw [drf_non h] at r; cases r; cases e; rfl
  · rename_i b h; rw [drf_bl h] at r; cases r; cases e; rfl
  · rename_i i h; rw [drf_int h] at r; cases r; cases e; rfl
  · rename_i x h
    rw [drf_str h] at r; cases r
    split at e
    · rename_i hl
      cases e
      refine ⟨by rw [sz_eq]; simpa [Str.length] using hl, ?_⟩
      cases x <;> simp [Str.length] <;> omega
    · cases e
  · rename_i xs h
    obtain ⟨a, vs, rfl, hs, hr⟩ := r.drf_lst W h
    cases e
    exact .inl ⟨vs, SqL.of hs, by cases hr <;> rfl⟩
  · rename_i xs h
    obtain ⟨a, vs, rfl, hs, hr⟩ := r.drf_tup W h
    cases e
    exact .inr (.inl ⟨vs, hs.sq, by cases hr <;> rfl⟩)
  · rename_i ks vs h
    obtain ⟨a, ws, us, rfl, hs, hk, hr, hl⟩ := r.drf_dic W h
    cases e
    refine .inr (.inr ?_)
    refine ⟨_, hs, ?_⟩
    have hlen := congrArg List.length hk
    simp only [List.length_map] at hlen
    cases ks <;> cases ws <;> cases us <;> simp_all
  · rename_i xs h
    obtain ⟨a, vs, rfl, hs, hr⟩ := r.drf_ro W h
    cases e
    exact .inl ⟨vs, hs.sq, by cases hr <;> rfl⟩
  · cases e
end
end Ev
/-! Ev7: comparisons, arithmetic, items, slices: the rules for the operations on data. -/
namespace Ev
open PySem PySem.Spec PyProof.Rows L2

section
variable {X : Cx} {pins : List (Addr × Obj)} {σ : L2.St} {H : Hp} {s : Shared} {φ : List Addr} {L : Addr → Prop} {z : W0} {S : Sto} {K : PySem.W.Frag}
theorem eOk_here {Q : VK} {d : D} {v : V} (W : Wld K φ S H z.B) (q : eOk K z φ S S H d Q) (r : Rep K φ (LB φ S z.B) H d v) : Q v H := q φ H v Stp.refl W r

theorem sc_rep {a b : D} {x y : V} (ra : Rep K φ L H a x) (rb : Rep K φ L H b y) {r : Bool} (e : scE a b = some r) : scal x y = true ∧ decide (x = y) = r := by
  cases ra <;> cases rb <;> first | (simp [scE] at e; done) | skip
  all_goals (simp [scE] at e; try subst e; simp [scal])

/-! ### dicts' keys -/
theorem sameK_key {k x : D} {w w' : Key} (h1 : keyD k = some w) (h2 : keyD x = some w') : sameK k x = decide (w = w') := by
  cases k <;> simp [keyD] at h1 <;> subst h1 <;> cases x <;> simp [keyD] at h2 <;> subst h2 <;> simp [sameK]
theorem keyD_rep {x : D} {w : Key} {y : V} (h : keyD x = some w) (r : Rep K φ L H x y) : y = kV w := by
  cases r <;> simp [keyD] at h <;> subst h <;> rfl
theorem isK_key {x : D} (h : isK x = true) : ∃ w, keyD x = some w := by
  cases x <;> simp [isK] at h <;> exact ⟨_, rfl⟩
theorem look_none {x : D} (h : isK x = false) : ∀ ks vs : List D, look ks vs x = none
  | [], _ => rfl
  | _ :: _, [] => rfl
  | k :: ks, v :: vs => by
    have e : sameK k x = false := by cases k <;> cases x <;> first | rfl | (simp [isK] at h)
    show (if sameK k x = true then some v else look ks vs x) = none
    rw [e, if_neg Bool.false_ne_true]
    exact look_none h ks vs
theorem look_rep {x : D} {w : Key} (hx : keyD x = some w) : ∀ {ks vs : List D} {ws : List Key} {us : List V}, ks.map keyD = ws.map some → Reps K φ L H vs us → ws.length = us.length →
    (look ks vs x = none ∧ valV (ws.zip us) w = none) ∨ ∃ d v, look ks vs x = some d ∧ valV (ws.zip us) w = some v ∧ Rep K φ L H d v
  | [], _, ws, us, e, r, hl => by
    cases ws with
    | cons _ _ => simp at e
    | nil => exact .inl ⟨rfl, by simp [valV]⟩
  | k :: ks, vs, ws, us, e, r, hl => by
    cases ws with
    | nil => simp at e
    | cons w0 ws =>
      simp only [List.map_cons, List.cons.injEq] at e
      cases r with
      | nil => simp at hl
      | @cons d v vs us r t =>
        rw [List.zip_cons_cons]
        show (((if sameK k x = true then some d else look ks vs x) = none) ∧ _) ∨ ∃ d' v', ((if sameK k x = true then some d else look ks vs x) = some d') ∧ _
        rw [sameK_key e.1 hx]
        by_cases h : w0 = w
        · rw [decide_eq_true h, if_pos rfl]
          exact .inr ⟨d, v, rfl, valV_pos (p := (w0, v)) h, r⟩
        · rw [decide_eq_false h, if_neg Bool.false_ne_true, valV_neg (p := (w0, v)) h]
          exact look_rep hx e.2 t (by simpa using hl)
theorem put_rep {x : D} {w : Key} (hx : keyD x = some w) {y : D} {u : V} (ry : Rep K φ L H y u) {ks vs : List D} {ws : List Key} {us : List V} (e : ks.map keyD = ws.map some) (r : Reps K φ L H vs us) (hl : ws.length = us.length) :
    ∃ (ws' : List Key) (us' : List V), putK (ws.zip us) w u = ws'.zip us' ∧ (putV ks vs x y).1.map keyD = ws'.map some ∧ Reps K φ L H (putV ks vs x y).2 us' ∧ ws'.length = us'.length := by
  have any_eq : ∀ (ks : List D) (ws : List Key) (us : List V), ks.map keyD = ws.map some → ws.length = us.length → ((ws.zip us).any fun kv => decide (kv.1 = w)) = ks.any fun k => sameK k x := by
    intro ks
    induction ks with
    | nil =>
      intro ws us e hl
      cases ws with
      | nil => rfl
      | cons _ _ => simp at e
    | cons k ks ih =>
      intro ws us e hl
      cases ws with
      | nil => simp at e
      | cons w0 ws =>
        cases us with
        | nil => simp at hl
        | cons u0 us =>
          simp only [List.map_cons, List.cons.injEq] at e
          rw [List.zip_cons_cons, List.any_cons, List.any_cons, ih ws us e.2 (by simpa using hl), sameK_key e.1 hx]
  have rep_eq : ∀ (ks vs : List D) (ws : List Key) (us : List V), ks.map keyD = ws.map some → Reps K φ L H vs us → ws.length = us.length →
      ∃ us' : List V, ((ws.zip us).map fun kv => if kv.1 = w then (kv.1, u) else kv) = ws.zip us' ∧ Reps K φ L H (repV ks vs x y) us' ∧ ws.length = us'.length := by
    intro ks
    induction ks with
    | nil =>
      intro vs ws us e r hl
      cases ws with
      | nil => exact ⟨[], rfl, by cases vs <;> exact .nil, rfl⟩
      | cons _ _ => simp at e
    | cons k ks ih =>
      intro vs ws us e r hl
      cases ws with
      | nil => simp at e
      | cons w0 ws =>
        cases r with
        | nil => simp at hl
        | @cons d v vs us r t =>
          simp only [List.map_cons, List.cons.injEq] at e
          obtain ⟨us', h1, h2, h3⟩ := ih vs ws us e.2 t (by simpa using hl)
          rw [List.zip_cons_cons, List.map_cons, h1]
          show ∃ us2 : List V, _ ∧ Reps K φ L H ((if sameK k x = true then y else d) :: repV ks vs x y) us2 ∧ _
          rw [sameK_key e.1 hx]
          by_cases h : w0 = w
          · rw [decide_eq_true h, if_pos rfl, if_pos h]
            exact ⟨u :: us', by rw [List.zip_cons_cons], .cons ry h2, by simpa using h3⟩
          · rw [decide_eq_false h, if_neg Bool.false_ne_true, if_neg h]
            exact ⟨v :: us', by rw [List.zip_cons_cons], .cons r h2, by simpa using h3⟩
  unfold putK putV
  rw [any_eq ks ws us e hl]
  by_cases h : (ks.any fun k => sameK k x) = true
  · rw [if_pos h, if_pos h]
    obtain ⟨us', h1, h2, h3⟩ := rep_eq ks vs ws us e r hl
    exact ⟨ws, us', h1, e, h2, h3⟩
  · rw [if_neg h, if_neg h]
    refine ⟨ws ++ [w], us ++ [u], ?_, by simp [e, hx], r.snoc ry, by simp [hl]⟩
    rw [List.zip_append hl]; rfl

/-! ### comparisons -/
theorem op_cmpD (hu : X.A.units + 200 < cLine) : ∀ op : CmpOp, OpR X (compareOp op) (opU X.K z (cmpD op)) := by
  have eqq : ∀ (neg : Bool) (pins : List (Addr × Obj)) (s : Shared) (σ : L2.St) (H : Hp) (x y : V) (v u : Value) (Q : VK), Inv X pins σ H s → RelV x v → RelV y u → ∀ (φ : List Addr) (S : Sto) (a b : D) (r : Bool), Wld X.K φ S H z.B → Rep X.K φ (LB φ S z.B) H a x → Rep X.K φ (LB φ S z.B) H b y →
      eqD S a b = some r → Q (.bl (if neg then !r else r)) H → wpAny (model X.prog X.w) X.A (compareOp (if neg then .NotEq else .Eq) v u) (EP X pins σ Q) X.xe s := by
    intro neg pins s σ H x y v u Q I rx ry φ S a b r W ra rb e q
    unfold eqD at e
    split at e
    · rename_i r0 h
      cases e
      obtain ⟨h1, h2⟩ := sc_rep ra rb h
      cases neg with
      | false => exact op_eq pins s σ H x y v u Q I rx ry ⟨h1, by rw [h2]; exact q⟩
      | true => exact op_ne pins s σ H x y v u Q I rx ry ⟨h1, by rw [h2]; exact q⟩
    · split at e
      · rename_i h
        cases e
        simp only [Bool.and_eq_true, decide_eq_true_eq] at h
        obtain ⟨⟨p1, p2⟩, hd⟩ := h
        obtain ⟨as, r1⟩ := ra.readsD I W rx p1
        obtain ⟨bs, r2⟩ := rb.readsD I W ry p2
        have hmin : X.A.units + min (drf S a).toPy.depth (drf S b).toPy.depth < cLine := by
          rw [dep_py]
          have : min (drf S a).dep (drf S b).toPy.depth ≤ 100 := Nat.le_trans (Nat.min_le_left _ _) hd
          omega
        have he := eqv_py _ _ p1 p2
        cases neg with
        | false => exact PySem.SeqAt.eq_plain r1 r2 (plain_py _) (plain_py _) hmin ⟨.bl _, H, I, rfl, by rw [he]; exact q⟩
        | true => exact PySem.SeqAt.ne_plain r1 r2 (plain_py _) (plain_py _) hmin ⟨.bl _, H, I, rfl, by rw [he]; exact q⟩
      · cases e
  have inn : ∀ (neg : Bool) (pins : List (Addr × Obj)) (s : Shared) (σ : L2.St) (H : Hp) (x y : V) (v u : Value) (Q : VK), Inv X pins σ H s → RelV x v → RelV y u → ∀ (φ : List Addr) (S : Sto) (a b : D) (r : Bool), Wld X.K φ S H z.B → Rep X.K φ (LB φ S z.B) H a x → Rep X.K φ (LB φ S z.B) H b y →
      inD S a b = some r → Q (.bl (if neg then !r else r)) H → wpAny (model X.prog X.w) X.A (compareOp (if neg then .NotIn else .In) v u) (EP X pins σ Q) X.xe s := by
    intro neg pins s σ H x y v u Q I rx ry φ S a b r W ra rb e q
    unfold inD at e
    split at e
    · rename_i zz h
      rw [drf_str h] at rb
      cases rb
      split at e
      · rename_i c
        cases ra
        cases e
        cases neg with
        | false => exact op_in_sign pins s σ H _ _ v u Q I rx ry ⟨c, ⟨zz.toArray⟩, rfl, rfl, by simpa using q⟩
        | true => exact op_notIn_sign pins s σ H _ _ v u Q I rx ry ⟨c, ⟨zz.toArray⟩, rfl, rfl, by simpa using q⟩
      · cases e
    · rename_i xs h
      split at e
      · rename_i hc
        cases e
        simp only [Bool.and_eq_true, decide_eq_true_eq] at hc
        obtain ⟨⟨p1, p2⟩, hd⟩ := hc
        obtain ⟨as, r1⟩ := Rep.reads I _ _ _ p1 ra rx
        obtain ⟨bs, r2⟩ := rb.readsD I W ry (by rw [h]; exact p2)
        rw [h] at r2
        have hmin : X.A.units + 1 + min (PyData.depthAll (toPys xs)) a.toPy.depth < cLine := by
          rw [dep_py]
          have : min (PyData.depthAll (toPys xs)) a.dep ≤ 100 := Nat.le_trans (Nat.min_le_right _ _) hd
          omega
        have he : ((toPys xs).any fun y => PyData.eqv y a.toPy) = xs.any fun y => deqv y a := by
          have go : ∀ xs : List D, purs xs = true → ((toPys xs).any fun y => PyData.eqv y a.toPy) = xs.any fun y => deqv y a := by
            intro xs
            induction xs with
            | nil => intro _; rfl
            | cons d ds ih =>
              intro hp
              simp only [purs, Bool.and_eq_true] at hp
              show (PyData.eqv d.toPy a.toPy || _) = _
              rw [eqv_py d a hp.1 p1, List.any_cons]
              congr 1
              exact ih hp.2
          exact go xs p2
        cases neg with
        | false => exact PySem.SeqAt.in_list_data r2 r1 (plains_py _) (plain_py _) hmin ⟨.bl _, H, I, rfl, by rw [he]; exact q⟩
        | true => exact PySem.SeqAt.notIn_list_data r2 r1 (plains_py _) (plain_py _) hmin ⟨.bl _, H, I, rfl, by rw [he]; exact q⟩
      · cases e
    · rename_i xs h
      split at e
      · rename_i hc
        cases e
        simp only [Bool.and_eq_true, decide_eq_true_eq] at hc
        obtain ⟨⟨p1, p2⟩, hd⟩ := hc
        obtain ⟨as, r1⟩ := Rep.reads I _ _ _ p1 ra rx
        obtain ⟨bs, r2⟩ := rb.readsD I W ry (by rw [h]; exact p2)
        rw [h] at r2
        have hmin : X.A.units + 1 + min (PyData.depthAll (toPys xs)) a.toPy.depth < cLine := by
          rw [dep_py]
          have : min (PyData.depthAll (toPys xs)) a.dep ≤ 100 := Nat.le_trans (Nat.min_le_right _ _) hd
          omega
        have he : ((toPys xs).any fun y => PyData.eqv y a.toPy) = xs.any fun y => deqv y a := by
          have go : ∀ xs : List D, purs xs = true → ((toPys xs).any fun y => PyData.eqv y a.toPy) = xs.any fun y => deqv y a := by
            intro xs
            induction xs with
            | nil => intro _; rfl
            | cons d ds ih =>
              intro hp
              simp only [purs, Bool.and_eq_true] at hp
              show (PyData.eqv d.toPy a.toPy || _) = _
              rw [eqv_py d a hp.1 p1, List.any_cons]
              congr 1
              exact ih hp.2
          exact go xs p2
        cases neg with
        | false => exact PySem.SeqAt.in_tuple_data r2 r1 (plains_py _) (plain_py _) hmin ⟨.bl _, H, I, rfl, by rw [he]; exact q⟩
        | true => exact PySem.SeqAt.notIn_tuple_data r2 r1 (plains_py _) (plain_py _) hmin ⟨.bl _, H, I, rfl, by rw [he]; exact q⟩
      · cases e
    · rename_i ks vs h
      split at e
      · rename_i hk
        cases e
        obtain ⟨a0, ws, us, rfl, hs, hks, hr, hl⟩ := rb.drf_dic W h
        obtain ⟨w, hw⟩ := isK_key hk
        have ey := keyD_rep hw ra
        cases ry
        have g : DGet H a0 x (valV (ws.zip us) w) := .inl ⟨_, w, .inl hs, ey, rfl⟩
        have he : (valV (ws.zip us) w).isSome = (look ks vs a).isSome := by
          rcases look_rep hw hks hr hl with ⟨e1, e2⟩ | ⟨d, v', e1, e2, _⟩ <;> rw [e1, e2] <;> rfl
        cases neg with
        | false => exact d_in (by omega) I g rx fun s' I' => ⟨.bl _, H, I', rfl, by rw [he]; exact q⟩
        | true => exact d_notIn (by omega) I g rx fun s' I' => ⟨.bl _, H, I', rfl, by rw [he]; exact q⟩
      · cases e
    · cases e
  intro op pins s σ H x y v u Q I rx ry h
  obtain ⟨φ, S, a, b, d, W, ra, rb, e, q⟩ := h
  have bl : ∀ {r : Bool}, d = .bl r → Q (.bl r) H := fun {r} h => by subst h; exact eOk_here W q (.bl r)
  cases op with
  | Eq =>
    cases h : eqD S a b with
    | none => simp [cmpD, h] at e
    | some r =>
      have e' : D.bl r = d := by simpa [cmpD, h] using e
      exact eqq false pins s σ H x y v u Q I rx ry φ S a b r W ra rb h (bl e'.symm)
  | NotEq =>
    cases h : eqD S a b with
    | none => simp [cmpD, h] at e
    | some r =>
      have e' : D.bl (!r) = d := by simpa [cmpD, h] using e
      exact eqq true pins s σ H x y v u Q I rx ry φ S a b r W ra rb h (bl e'.symm)
  | In =>
    cases h : inD S a b with
    | none => simp [cmpD, h] at e
    | some r =>
      have e' : D.bl r = d := by simpa [cmpD, h] using e
      exact inn false pins s σ H x y v u Q I rx ry φ S a b r W ra rb h (bl e'.symm)
  | NotIn =>
    cases h : inD S a b with
    | none => simp [cmpD, h] at e
    | some r =>
      have e' : D.bl (!r) = d := by simpa [cmpD, h] using e
      exact inn true pins s σ H x y v u Q I rx ry φ S a b r W ra rb h (bl e'.symm)
  | Is =>
    simp only [cmpD] at e
    split at e
    · have e' := Option.some.inj e
      cases rb
      refine op_isN pins s σ H x _ v u Q I rx ry ⟨rfl, ?_⟩
      have : decide (x = .non) = isNon a := by cases ra <;> simp [isNon]
      rw [this]; exact bl e'.symm
    · split at e
      · have e' := Option.some.inj e
        cases rb
        cases ra
        exact op_isBl pins s σ H _ _ v u Q I rx ry ⟨_, _, rfl, rfl, bl e'.symm⟩
      · cases e
    · cases e
  | IsNot =>
    simp only [cmpD] at e
    split at e
    · have e' := Option.some.inj e
      cases rb
      refine op_notN pins s σ H x _ v u Q I rx ry ⟨rfl, ?_⟩
      have : decide (x = .non) = isNon a := by cases ra <;> simp [isNon]
      rw [this]; exact bl e'.symm
    · split at e
      · have e' := Option.some.inj e
        cases rb
        cases ra
        exact op_notBl pins s σ H _ _ v u Q I rx ry ⟨_, _, rfl, rfl, bl e'.symm⟩
      · cases e
    · cases e
  | Lt =>
    simp only [cmpD] at e
    split at e
    · have e' := Option.some.inj e
      cases ra; cases rb
      exact op_lt pins s σ H _ _ v u Q I rx ry ⟨_, _, rfl, rfl, bl e'.symm⟩
    · have e' := Option.some.inj e
      cases ra; cases rb
      exact op_lt_str pins s σ H _ _ v u Q I rx ry ⟨_, _, rfl, rfl, by simpa using bl e'.symm⟩
    · cases e
  | LtE =>
    simp only [cmpD] at e
    split at e
    · have e' := Option.some.inj e
      cases ra; cases rb
      exact op_le pins s σ H _ _ v u Q I rx ry ⟨_, _, rfl, rfl, bl e'.symm⟩
    · have e' := Option.some.inj e
      cases ra; cases rb
      exact op_le_str pins s σ H _ _ v u Q I rx ry ⟨_, _, rfl, rfl, by simpa using bl e'.symm⟩
    · cases e
  | Gt =>
    simp only [cmpD] at e
    split at e
    · have e' := Option.some.inj e
      cases ra; cases rb
      exact op_gt pins s σ H _ _ v u Q I rx ry ⟨_, _, rfl, rfl, bl e'.symm⟩
    · have e' := Option.some.inj e
      cases ra; cases rb
      exact op_gt_str pins s σ H _ _ v u Q I rx ry ⟨_, _, rfl, rfl, by simpa using bl e'.symm⟩
    · cases e
  | GtE =>
    simp only [cmpD] at e
    split at e
    · have e' := Option.some.inj e
      cases ra; cases rb
      exact op_ge pins s σ H _ _ v u Q I rx ry ⟨_, _, rfl, rfl, bl e'.symm⟩
    · have e' := Option.some.inj e
      cases ra; cases rb
      exact op_ge_str pins s σ H _ _ v u Q I rx ry ⟨_, _, rfl, rfl, by simpa using bl e'.symm⟩
    · cases e
end
end Ev
/-! Ev8: +, -, *, //, %, items, slices, turned lists. -/
namespace Ev
open PySem PySem.Spec PyProof.Rows L2

section
variable {X : Cx} {pins : List (Addr × Obj)} {σ : L2.St} {H : Hp} {s : Shared} {φ : List Addr} {L : Addr → Prop} {z : W0} {W : WX} {S : Sto} {K : PySem.W.Frag}
theorem mulOk_c {i j : Int} (h : mulOk i j = true) : CMul i j := by
  unfold mulOk at h
  simp only [Bool.or_eq_true, Bool.and_eq_true, decide_eq_true_eq] at h
  exact h
theorem foldl_rep_app (a : Array Nat) : ∀ (k : Nat) (acc : List Nat), List.foldl (fun x y => x ++ y) acc.toArray (List.replicate k a) = (acc ++ (List.replicate k a.toList).flatten).toArray
  | 0, acc => by simp
  | k + 1, acc => by
    rw [List.replicate_succ, List.foldl_cons, List.replicate_succ, List.flatten_cons]
    have e : acc.toArray ++ a = (acc ++ a.toList).toArray := by
      apply Array.ext'
      simp
    rw [e, foldl_rep_app a k (acc ++ a.toList), List.append_assoc]
theorem op_mulStr : OpR X (binaryOp .Mult) (fun x y H Q => ∃ (a : List Nat) (k : Int), x = .str ⟨a.toArray⟩ ∧ y = .int k ∧ 0 ≤ k ∧ k ≤ 100000 ∧ a.length * k.toNat ≤ 16777216 ∧ Q (.str ⟨((List.replicate k.toNat a).flatten).toArray⟩) H) := by
  intro pins s σ H x y v u Q I rx ry h
  obtain ⟨a, k, rfl, rfl, h0, h1, hz, q⟩ := h
  obtain ⟨t, rfl⟩ := rx
  obtain ⟨t', rfl⟩ := ry
  have flat : ((List.replicate k.toNat (⟨a.toArray⟩ : Str).cps).foldl (· ++ ·) #[]) = ((List.replicate k.toNat a).flatten).toArray := by
    have := foldl_rep_app a.toArray k.toNat []
    rw [List.toList_toArray, List.nil_append] at this
    exact this
  have hsz : (⟨a.toArray⟩ : Str).length = a.length := by show a.toArray.size = _; rw [List.size_toArray]
  refine PySem.P.mul_str ?_ ?_ ?_ ?_
  · have h2 : ¬ k < -(2 ^ 63 : Int) := by omega
    have h3 : ¬ k ≥ 2 ^ 63 := by omega
    rw [decide_eq_false h2, decide_eq_false h3]; rfl
  · intro hk _ hgt
    have hpos : 0 < k := by omega
    rw [hsz] at hgt
    have hz' : ((a.length * k.toNat : Nat) : Int) ≤ ((16777216 : Nat) : Int) := Int.ofNat_le.mpr hz
    rw [Int.natCast_mul, Int.toNat_of_nonneg h0] at hz'
    have h4 : (9223372036854775807 : Int) < (a.length : Int) * k := (Int.ediv_lt_iff_lt_mul hpos).mp hgt
    omega
  · intro _ _
    rw [hsz]
    exact decide_eq_false (show ¬ (a.length * k.toNat > sizeLine) by rw [sz_eq]; omega)
  · by_cases hk : k < 1
    · rw [if_pos hk]
      have hk0 : k = 0 := by omega
      subst hk0
      refine ⟨by decide, ?_⟩
      exact ⟨.str Str.empty, H, I.tok _, ⟨_, rfl⟩, q⟩
    · rw [if_neg hk]
      by_cases he : (k == 1 || (⟨a.toArray⟩ : Str).length == 0) = true
      · rw [if_pos he]
        have e2 : (List.replicate k.toNat a).flatten = a := by
          rw [hsz] at he
          simp only [Bool.or_eq_true, beq_iff_eq] at he
          rcases he with he | he
          · subst he; simp
          · have : a = [] := List.eq_nil_of_length_eq_zero he
            subst this; simp
        rw [e2] at q
        exact ⟨.str _, H, I, ⟨_, rfl⟩, q⟩
      · rw [if_neg he]
        refine ⟨?_, ?_⟩
        · rw [flat]
          show ((List.replicate k.toNat a).flatten.toArray).size ≤ sizeLine
          rw [List.size_toArray, List.length_flatten, List.map_replicate, List.sum_replicate_nat, sz_eq, Nat.mul_comm]
          exact hz
        · rw [flat]
          exact ⟨.str _, H, I.tok _, ⟨_, rfl⟩, q⟩
/-- a list and a list -/
theorem eNew_lst {Q : VK} {xs : List D} {vs : List V} {p : Addr} (W : Wld K φ S H z.B) (q : eNew K z φ S S H (.lst xs) Q) (r : Reps K φ (LB φ S z.B) H xs vs) (hp : H p = none) : Q (.ref p) (upd H p (.lst vs)) := q φ H p vs Stp.refl W r hp
theorem op_binD : ∀ op : Operator, OpR X (binaryOp op) (opN X.K z (binD op)) := by
  intro op pins s σ H x y v u Q I rx ry h
  obtain ⟨φ, S, a, b, d, W, ra, rb, e, q⟩ := h
  have fi : ∀ {i : Int}, d = .int i → Q (.int i) H := fun {i} h => by subst h; exact eOk_here W q (.int i)
  cases op with
  | Add =>
    simp only [binD] at e
    split at e
    · rename_i i j h1 h2
      rw [drf_int h1] at ra; rw [drf_int h2] at rb
      cases ra; cases rb
      exact op_add pins s σ H _ _ v u Q I rx ry ⟨_, _, rfl, rfl, fi (Option.some.inj e).symm⟩
    · rename_i i j h1 h2
      rw [drf_str h1] at ra; rw [drf_str h2] at rb
      cases ra; cases rb
      split at e
      · rename_i hz
        have e' := Option.some.inj e
        subst e'
        refine op_add_str pins s σ H _ _ v u Q I rx ry ⟨_, _, rfl, rfl, by rw [sz_eq]; simpa [Str.length] using hz, ?_⟩
        have : (⟨i.toArray⟩ : Str) ++ ⟨j.toArray⟩ = ⟨(i ++ j).toArray⟩ := by
          show Str.append _ _ = _
          simp [Str.append]
        rw [this]
        exact eOk_here W q (.str _)
      · cases e
    · rename_i xs ys h1 h2
      obtain ⟨p1, vs, rfl, hs, hr⟩ := ra.drf_tup W h1
      obtain ⟨p2, us, rfl, hs2, hr2⟩ := rb.drf_tup W h2
      split at e
      · rename_i hz
        have e' := Option.some.inj e
        subst e'
        refine op_catF pins s σ H _ _ v u Q I rx ry ⟨p1, p2, vs, us, rfl, rfl, hs.sq, hs2.sq, by rw [← hr.length, ← hr2.length, sz_eq]; exact hz, fun h => ?_, fun h h' => ?_, fun h h' p o hp hd => ?_⟩
        · subst h
          cases hr
          exact eOk_here W q (.tup hs2 hr2)
        · subst h'
          cases hr2
          rw [List.append_nil] at q
          exact eOk_here W q (.tup hs hr)
        · exact q φ _ _ (Stp.upd hp) (W.upd hp) (Rep.newTup W (hr.append hr2) hp hd)
      · cases e
    · rename_i xs ys h1 h2
      obtain ⟨p1, vs, rfl, hs, hr⟩ := ra.drf_lst W h1
      obtain ⟨p2, us, rfl, hs2, hr2⟩ := rb.drf_lst W h2
      split at e
      · rename_i hz
        have e' := Option.some.inj e
        subst e'
        exact op_cat pins s σ H _ _ v u Q I rx ry ⟨p1, p2, vs, us, rfl, rfl, hs, hs2, by rw [← hr.length, ← hr2.length, sz_eq]; exact hz, fun p hp => eNew_lst W q (hr.append hr2) hp⟩
      · cases e
    · cases e
  | Sub =>
    simp only [binD] at e
    split at e
    · cases ra; cases rb
      exact op_sub pins s σ H _ _ v u Q I rx ry ⟨_, _, rfl, rfl, fi (Option.some.inj e).symm⟩
    · cases e
  | Mult =>
    simp only [binD] at e
    split at e
    · split at e
      · rename_i hm
        cases ra; cases rb
        exact op_mul pins s σ H _ _ v u Q I rx ry ⟨_, _, rfl, rfl, mulOk_c hm, fi (Option.some.inj e).symm⟩
      · cases e
    · split at e
      · rename_i hm
        cases ra; cases rb
        have e' := Option.some.inj e
        subst e'
        exact op_mulStr pins s σ H _ _ v u Q I rx ry ⟨_, _, rfl, rfl, hm.1, hm.2.1, hm.2.2, eOk_here W q (.str _)⟩
      · cases e
    · cases e
  | FloorDiv =>
    simp only [binD] at e
    split at e
    · split at e
      · rename_i hm
        cases ra; cases rb
        exact op_fdiv pins s σ H _ _ v u Q I rx ry ⟨_, _, rfl, rfl, hm, fi (Option.some.inj e).symm⟩
      · cases e
    · cases e
  | Mod =>
    simp only [binD] at e
    split at e
    · split at e
      · rename_i hm
        cases ra; cases rb
        exact op_mod pins s σ H _ _ v u Q I rx ry ⟨_, _, rfl, rfl, hm, fi (Option.some.inj e).symm⟩
      · cases e
    · cases e
  | Pow =>
    simp only [binD] at e
    split at e
    · split at e
      · rename_i hm
        cases ra; cases rb
        exact op_pow pins s σ H _ _ v u Q I rx ry ⟨_, _, rfl, rfl, hm, fi (Option.some.inj e).symm⟩
      · cases e
    · cases e
  | LShift =>
    simp only [binD] at e
    split at e
    · split at e
      · rename_i hm
        cases ra; cases rb
        exact op_shl pins s σ H _ _ v u Q I rx ry ⟨_, _, rfl, rfl, hm, fi (Option.some.inj e).symm⟩
      · cases e
    · cases e
  | _ => cases e

/-! ### items -/
theorem atI_rep {xs : List D} {vs : List V} (r : Reps K φ L H xs vs) {i : Int} {d : D} (e : atI xs i = some d) : ∃ v, atI vs i = some v ∧ Rep K φ L H d v := by
  unfold atI at e ⊢
  rw [← r.length]
  cases h : ixN xs.length i with
  | none => rw [h] at e; cases e
  | some j =>
    rw [h] at e
    exact r.get e
/-- items of lists, tuples, texts -/
def idxS (S : Sto) (a b : D) : Option D := match drf S a with
  | .dic _ _ => none
  | _ => idxD S a b
theorem ix_seqD : IxR X (opU X.K z idxS) := by
  intro value slice pins s σ H x y v u Q I rx ry h
  obtain ⟨φ, S, a, b, d, W, ra, rb, e, q⟩ := h
  unfold idxS at e
  split at e
  · cases e
  · unfold idxD at e
    split at e
    · rename_i xs h
      split at e
      · rename_i i
        cases rb
        obtain ⟨p, vs, rfl, hs, hr⟩ := ra.drf_lst W h
        obtain ⟨w, e1, r1⟩ := atI_rep hr e
        exact ix_list value slice pins s σ H _ _ v u Q I rx ry ⟨p, vs, i, w, rfl, rfl, SqL.of hs, e1, eOk_here W q r1⟩
      · cases e
    · rename_i xs h
      split at e
      · rename_i i
        cases rb
        obtain ⟨p, vs, rfl, hs, hr⟩ := ra.drf_tup W h
        obtain ⟨w, e1, r1⟩ := atI_rep hr e
        exact ix_tup value slice pins s σ H _ _ v u Q I rx ry ⟨p, vs, i, w, rfl, rfl, hs.sq, e1, eOk_here W q r1⟩
      · cases e
    · rename_i xs h
      split at e
      · rename_i i
        cases rb
        obtain ⟨p, vs, rfl, hs, hr⟩ := ra.drf_ro W h
        obtain ⟨w, e1, r1⟩ := atI_rep hr e
        exact ix_list value slice pins s σ H _ _ v u Q I rx ry ⟨p, vs, i, w, rfl, rfl, hs.sq, e1, eOk_here W q r1⟩
      · cases e
    · rename_i x0 h
      rw [drf_str h] at ra
      cases ra
      split at e
      · rename_i i
        cases rb
        split at e
        · rename_i hz
          cases hc : atI x0 i with
          | none => rw [hc] at e; cases e
          | some c =>
            rw [hc] at e
            have e' := Option.some.inj e
            subst e'
            exact ix_str value slice pins s σ H _ _ v u Q I rx ry ⟨_, i, c, rfl, rfl, by rw [sz_eq]; simpa [Str.length] using hz, by simpa using hc, eOk_here W q (.str [c])⟩
        · cases e
      · cases e
    · rename_i h1 h2 _ _ h
      exact absurd h (h1 _ _)
    · cases e
theorem look_isK {ks vs : List D} {x d : D} (h : look ks vs x = some d) : isK x = true := by
  cases e : isK x with
  | true => rfl
  | false => rw [look_none e] at h; cases h
/-- items of anything that is told -/
theorem pe_idxD {a b : Expr} {pos : Pos} {ta tb : Loc → Sto → Res D} (hu : X.A.units + 200 < cLine) (ha : PE X a (up X.K X.mg z W ta)) (hb : PE X b (up X.K X.mg z W tb)) (hs : PlainIx b) :
    PE X (.Subscript a b pos) (up X.K X.mg z W fun ls S => (ta ls S).bd fun x S1 => (tb ls S1).bd fun y S2 => ofO S2 (idxD S2 x y)) := by
  refine ⟨fun pins s σ H Q I h => ?_⟩
  have h := tOp_up (f := idxD) h
  refine Subscript_ ?_
  refine binT ha hb I h fun v u s2 x y H2 I2 rx ry q => ?_
  obtain ⟨φ, S, c, k, d, Wd, ra, rb, e, q⟩ := q
  cases hd : drf S c with
  | dic ks vs =>
    have e2 : look ks vs k = some d := by simpa [idxD, hd] using e
    obtain ⟨a0, ws, us, rfl, hs', hks, hr, hl⟩ := ra.drf_dic Wd hd
    obtain ⟨w, hw⟩ := isK_key (look_isK e2)
    have ey := keyD_rep hw rb
    cases rx
    rcases look_rep hw hks hr hl with ⟨e1, _⟩ | ⟨d', v', e1, e3, r3⟩
    · rw [e2] at e1; cases e1
    · rw [e2] at e1; cases e1
      have g : DGet H2 a0 y (some v') := .inl ⟨_, w, .inl hs', ey, e3.symm⟩
      exact tail_any (ops := [.ref a0, u]) (dict_typeIs I2 g) PySem.F.slot_dict_getitem.lookup (d_getItem (by omega) I2 g ry fun w' s' I' r' => ⟨v', H2, I', r', eOk_here Wd q r3⟩) (hs _ _)
  | _ =>
    exact ix_seqD a b pins s2 σ H2 x y v u Q I2 rx ry ⟨φ, S, c, k, d, Wd, ra, rb, by unfold idxS; rw [hd]; exact e, q⟩ (hs _ _)
end
end Ev
/-! Ev9: tests, and, or, not, conditional expressions, slices, turned lists. -/
namespace Ev
open PySem PySem.Spec PyProof.Rows L2

section
variable {X : Cx} {pins : List (Addr × Obj)} {σ : L2.St} {H : Hp} {s : Shared} {φ : List Addr} {L : Addr → Prop} {z : W0} {W : WX} {S : Sto} {K : PySem.W.Frag} {pos : Pos} {a b c e : Expr}

/-- a test that gives a truth value, from the reading of it as a value -/
theorem upT_up {K : PySem.W.Frag} {mg : Str → Option Value} {w : Loc → Sto → Res D} {Q : Bool → Hp → Prop} (h : upT K mg z W w σ H Q) : up K mg z W w σ H fun x H' => ∃ k, x = .bl k ∧ Q k H' := by
  obtain ⟨φ, S, ls, h, g⟩ := h
  refine ⟨φ, S, ls, h, ?_⟩
  cases e : w ls S with
  | bad => rw [e] at g; exact g
  | exc c fs S' => rw [e] at g; exact g
  | ok d S1 =>
    rw [e] at g
    cases d with
    | bl k =>
      intro φ' H' v st wd r
      cases r
      exact ⟨k, rfl, g φ' H' st wd⟩
    | _ => exact g.elim
theorem pt_finD {w : Loc → Sto → Res D} (ha : PE X a (up X.K X.mg z W w)) (he : ∀ whole, isTrue a X.env whole = (do let v ← whole; standAt a.pos; holding [v] (truthy v))) :
    PT X a (upT X.K X.mg z W fun ls S => fin true (w ls S)) := (pt_truth ha he).imp' fun σ H Q h => by
  obtain ⟨φ, S, ls, h, g⟩ := h
  refine ⟨φ, S, ls, h, ?_⟩
  simp only [fin_t] at g
  cases e : w ls S with
  | bad => rw [e] at g; exact g
  | exc c fs S' => rw [e] at g; exact g
  | ok d S1 =>
    rw [e] at g
    intro φ' H' v st wd r
    simp only [Res.bd_ok] at g
    cases ht : truD S1 d with
    | none => rw [ht] at g; exact g.elim
    | some k =>
      rw [ht] at g
      exact ⟨k, tru_rep wd r ht, g φ' H' st wd⟩
/-! ### comparisons -/
theorem cmpD_bl {op : CmpOp} {S : Sto} {a b d : D} (h : cmpD op S a b = some d) : ∃ r, d = .bl r := by
  cases op <;> simp only [cmpD] at h
  case Eq => obtain ⟨r, _, e⟩ := Option.map_eq_some_iff.mp h; exact ⟨r, e.symm⟩
  case NotEq => obtain ⟨r, _, e⟩ := Option.map_eq_some_iff.mp h; exact ⟨_, e.symm⟩
  case In => obtain ⟨r, _, e⟩ := Option.map_eq_some_iff.mp h; exact ⟨r, e.symm⟩
  case NotIn => obtain ⟨r, _, e⟩ := Option.map_eq_some_iff.mp h; exact ⟨_, e.symm⟩
  all_goals (split at h <;> first | (cases h; exact ⟨_, rfl⟩) | (split at h <;> first | (cases h; exact ⟨_, rfl⟩) | cases h) | cases h)
theorem pe_cmpD {op : CmpOp} {ta tb : Loc → Sto → Res D} (hu : X.A.units + 200 < cLine) (ha : PE X a (up X.K X.mg z W ta)) (hb : PE X b (up X.K X.mg z W tb)) (hm : behindInMarks op b = false) :
    PE X (.Compare a [op] [b] pos) (up X.K X.mg z W fun ls S => (ta ls S).bd fun x S1 => (tb ls S1).bd fun y S2 => ofO S2 (cmpD op S2 x y)) :=
  (pe_cmpR (op_cmpD hu op) ha hb hm).imp' fun σ H Q h => tOp_up h
theorem pt_cmpD {op : CmpOp} {ta tb : Loc → Sto → Res D} (hu : X.A.units + 200 < cLine) (ha : PE X a (up X.K X.mg z W ta)) (hb : PE X b (up X.K X.mg z W tb)) (hm : behindInMarks op b = false) :
    PT X (.Compare a [op] [b] pos) (upT X.K X.mg z W fun ls S => (ta ls S).bd fun x S1 => (tb ls S1).bd fun y S2 => ofO S2 (cmpD op S2 x y)) :=
  (pt_cmpR (op_cmpD hu op) ha hb hm).imp' fun σ H Q h => tOp_up (upT_up h)
theorem chain_up {o1 o2 : CmpOp} {ta tb tc : Loc → Sto → Res D} {Q : VK}
    (h : up X.K X.mg z W (fun ls S => (ta ls S).bd fun x S1 => (tb ls S1).bd fun y S2 => match cmpD o1 S2 x y with
      | some (.bl true) => (tc ls S2).bd fun zz S3 => ofO S3 (cmpD o2 S3 y zz)
      | some (.bl false) => .ok (.bl false) S2
      | _ => .bad) σ H Q) :
    tChain (opU X.K z (cmpD o1)) (opU X.K z (cmpD o2)) (up X.K X.mg z W ta) (up X.K X.mg z W tb) (up X.K X.mg z W tc) σ H Q := by
  obtain ⟨φ, S, ls, h, g⟩ := h
  refine up_seq (G := fun φ S H r => gives X.K X.mg z W σ φ S H Q r) h g (fun _ _ _ h => h) (fun _ _ _ _ _ _ h => h) fun d S1 φ1 H1 v _ st1 h1 r1 g1 => ?_
  refine up_seq (G := fun φ S H r => gives X.K X.mg z W σ φ S H Q r) h1 (gives_step st1 g1) (fun _ _ _ h => h) (fun _ _ _ _ _ _ h => h) fun d2 S2 φ2 H2 v2 _ st2 h2 r2 g2 => ?_
  have g3 := gives_step st2 g2
  cases e : cmpD o1 S2 d d2 with
  | none => rw [e] at g3; exact g3.elim
  | some u =>
    obtain ⟨k, rfl⟩ := cmpD_bl e
    rw [e] at g3
    refine ⟨φ2, S2, d, d2, .bl k, h2.w, r1.step st2, r2, e, fun φ' H' v' st wd r => ?_⟩
    cases r
    refine ⟨k, rfl, ?_⟩
    have h3 := h2.step st wd
    cases k with
    | true =>
      rw [if_pos rfl]
      refine up_seq (G := fun φ S H r => gives X.K X.mg z W σ φ S H Q r) h3 (gives_step st g3) (fun _ _ _ h => h) (fun _ _ _ _ _ _ h => h) fun d4 S4 φ4 H4 v4 _ st4 h4 r4 g4 => ?_
      have g5 := gives_step st4 g4
      cases e4 : cmpD o2 S4 d2 d4 with
      | none => rw [e4] at g5; exact g5.elim
      | some u4 =>
        rw [e4] at g5
        exact ⟨φ4, S4, d2, d4, u4, h4.w, (r2.step st).step st4, r4, e4, g5⟩
    | false =>
      rw [if_neg Bool.false_ne_true]
      exact gives_step st g3 φ' H' _ Stp.refl wd (.bl false)
theorem chain_bl {o1 o2 : CmpOp} {ta tb tc : Loc → Sto → Res D} {ls : Loc} {S S' : Sto} {d : D} (h : ((ta ls S).bd fun x S1 => (tb ls S1).bd fun y S2 => match cmpD o1 S2 x y with
      | some (.bl true) => (tc ls S2).bd fun zz S3 => ofO S3 (cmpD o2 S3 y zz)
      | some (.bl false) => .ok (.bl false) S2
      | _ => .bad) = .ok d S') : ∃ r, d = .bl r := by
  cases e1 : ta ls S with
  | bad => rw [e1] at h; cases h
  | exc _ _ _ => rw [e1] at h; cases h
  | ok x S1 =>
    rw [e1, Res.bd_ok] at h
    cases e2 : tb ls S1 with
    | bad => rw [e2] at h; cases h
    | exc _ _ _ => rw [e2] at h; cases h
    | ok y S2 =>
      rw [e2, Res.bd_ok] at h
      cases e3 : cmpD o1 S2 x y with
      | none => rw [e3] at h; cases h
      | some u =>
        obtain ⟨k, rfl⟩ := cmpD_bl e3
        rw [e3] at h
        cases k with
        | true =>
          change ((tc ls S2).bd fun zz S3 => ofO S3 (cmpD o2 S3 y zz)) = .ok d S' at h
          cases e4 : tc ls S2 with
          | bad => rw [e4] at h; cases h
          | exc _ _ _ => rw [e4] at h; cases h
          | ok w S4 =>
            rw [e4, Res.bd_ok] at h
            cases e5 : cmpD o2 S4 y w with
            | none => rw [e5] at h; cases h
            | some q =>
              rw [e5] at h
              cases h
              exact cmpD_bl e5
        | false => cases h; exact ⟨_, rfl⟩

/-! ### and, or, not, a if t else b -/
theorem pe_negD {t : Loc → Sto → Res D} (ha : PE X a (up X.K X.mg z W t)) : PE X (.UnaryOp .USub a pos) (up X.K X.mg z W fun ls S => (t ls S).bd fun x S1 => match x with
    | .int i => .ok (.int (-i)) S1
    | _ => .bad) := (pe_un un_neg ha).imp' fun σ H Q h => by
  obtain ⟨φ, S, ls, h, g⟩ := h
  refine up_seq (G := fun φ S H r => gives X.K X.mg z W σ φ S H Q r) h g (fun _ _ _ h => h) (fun _ _ _ _ _ _ h => h) fun d S1 φ1 H1 v _ st1 h1 r1 g1 => ?_
  have g2 := gives_step st1 g1
  cases d with
  | int i =>
    cases r1
    exact ⟨i, rfl, gives_ok h1 g2 (.int _)⟩
  | _ => exact g2.elim
theorem pe_ntD {t : Loc → Sto → Res D} (ha : PE X a (up X.K X.mg z W t)) : PE X (.UnaryOp .Not a pos) (up X.K X.mg z W fun ls S => (t ls S).bd fun x S1 => match x with
    | .bl b => .ok (.bl (!b)) S1
    | _ => .bad) := (pe_not ha).imp' fun σ H Q h => by
  obtain ⟨φ, S, ls, h, g⟩ := h
  refine up_seq (G := fun φ S H r => gives X.K X.mg z W σ φ S H Q r) h g (fun _ _ _ h => h) (fun _ _ _ _ _ _ h => h) fun d S1 φ1 H1 v _ st1 h1 r1 g1 => ?_
  have g2 := gives_step st1 g1
  cases d with
  | bl i =>
    cases r1
    exact ⟨i, rfl, gives_ok h1 g2 (.bl _)⟩
  | _ => exact g2.elim
/-- a reading of a test that goes on -/
theorem upT_seq {K : PySem.W.Frag} {mg : Str → Option Value} {β : Type} {w : Loc → Sto → Res D} {f : D → Sto → Res β} {G : List Addr → Sto → Hp → Res β → Prop} {Q' : Bool → Hp → Prop} {ls : Loc} (h : Here K z φ S ls σ H) (hg : G φ S H ((w ls S).bd f))
    (gb : ∀ φ S H, G φ S H .bad → False) (ge : ∀ φ S H c fs S', G φ S H (.exc c fs S') → eEx K mg z W σ S' c fs) (hb : ∀ d S1, (∀ k, d ≠ .bl k) → f d S1 = .bad)
    (hq : ∀ k S1 φ1 H1, w ls S = .ok (.bl k) S1 → Stp φ S H φ1 S1 H1 → Here K z φ1 S1 ls σ H1 → G φ S H (f (.bl k) S1) → Q' k H1) : upT K mg z W w σ H Q' := by
  refine ⟨φ, S, ls, h, ?_⟩
  cases e : w ls S with
  | bad => rw [e] at hg; exact gb _ _ _ hg
  | exc c fs S' => rw [e] at hg; exact ge _ _ _ _ _ _ hg
  | ok d S1 =>
    rw [e] at hg
    cases d with
    | bl k => exact fun φ1 H1 st wd => hq k S1 φ1 H1 e st (h.step st wd) hg
    | _ => rw [Res.bd_ok, hb _ _ (by intro k; simp)] at hg; exact (gb _ _ _ hg).elim
def givesT (K : PySem.W.Frag) (mg : Str → Option Value) (z : W0) (W : WX) (σ : L2.St) (φ : List Addr) (S : Sto) (H : Hp) (Q : Bool → Hp → Prop) (r : Res D) : Prop := match r with
  | .ok (.bl b) S' => ∀ φ' H', Stp φ S H φ' S' H' → Wld K φ' S' H' z.B → Q b H'
  | .ok _ _ => False
  | .exc c fs S' => eEx K mg z W σ S' c fs
  | .bad => False
theorem givesT_step {K : PySem.W.Frag} {mg : Str → Option Value} {Q : Bool → Hp → Prop} {r : Res D} {φ' : List Addr} {S' : Sto} {H' : Hp} (st : Stp φ S H φ' S' H') (h : givesT K mg z W σ φ S H Q r) : givesT K mg z W σ φ' S' H' Q r := by
  cases r with
  | bad => exact h
  | exc c fs S2 => exact h
  | ok d S2 =>
    cases d with
    | bl k => exact fun φ2 H2 st2 => h φ2 H2 (st.trans st2)
    | _ => exact h
theorem pt_ntD {t : Loc → Sto → Res D} (ha : PT X a (upT X.K X.mg z W t)) : PT X (.UnaryOp .Not a pos) (upT X.K X.mg z W fun ls S => (t ls S).bd fun x S1 => match x with
    | .bl b => .ok (.bl (!b)) S1
    | _ => .bad) := (pt_not ha).imp' fun σ H Q h => by
  obtain ⟨φ, S, ls, h, g⟩ := h
  refine upT_seq (G := fun φ S H r => givesT X.K X.mg z W σ φ S H Q r) h g (fun _ _ _ h => h) (fun _ _ _ _ _ _ h => h) (fun d S1 hk => by cases d <;> first | rfl | exact absurd rfl (hk _)) fun k S1 φ1 H1 _ st1 h1 g1 => ?_
  exact givesT_step st1 g1 φ1 H1 Stp.refl h1.w
theorem pe_iteD {tc ta tb : Loc → Sto → Res D} (hc : PT X c (upT X.K X.mg z W tc)) (ha : PE X a (up X.K X.mg z W ta)) (hb : PE X b (up X.K X.mg z W tb)) : PE X (.IfExp c a b pos) (up X.K X.mg z W fun ls S => (tc ls S).bd fun x S1 => match x with
    | .bl true => ta ls S1
    | .bl false => tb ls S1
    | _ => .bad) := (pe_ifExp hc ha hb).imp' fun σ H Q h => by
  obtain ⟨φ, S, ls, h, g⟩ := h
  refine upT_seq (G := fun φ S H r => gives X.K X.mg z W σ φ S H Q r) h g (fun _ _ _ h => h) (fun _ _ _ _ _ _ h => h) (fun d S1 hk => by cases d <;> first | rfl | exact absurd rfl (hk _)) fun k S1 φ1 H1 _ st1 h1 g1 => ?_
  have g2 := gives_step st1 g1
  cases k with
  | true => rw [if_pos rfl]; exact ⟨φ1, S1, ls, h1, g2⟩
  | false => rw [if_neg Bool.false_ne_true]; exact ⟨φ1, S1, ls, h1, g2⟩
theorem pt_ite {tA tB' tC : TT} (hc : PT X c tC) (ha : PT X a tA) (hb : PT X b tB') : PT X (.IfExp c a b pos) (fun σ H Q => tC σ H fun k H1 => if k = true then tA σ H1 Q else tB' σ H1 Q) := by
  refine ⟨fun pins s σ H Q I h => ?_⟩
  show wpAny _ _ (do if ← isTrue c X.env (eval c X.env) then isTrue a X.env (eval a X.env) else isTrue b X.env (eval b X.env)) _ _ _
  refine wpAny_bind (thn (hc.run pins s σ H _ I h) fun d s1 ⟨H1, I1, q1⟩ => ?_)
  cases d with
  | true => exact ha.run pins s1 σ H1 Q I1 q1
  | false => exact hb.run pins s1 σ H1 Q I1 q1
theorem pt_iteD {tc ta tb : Loc → Sto → Res D} (hc : PT X c (upT X.K X.mg z W tc)) (ha : PT X a (upT X.K X.mg z W ta)) (hb : PT X b (upT X.K X.mg z W tb)) : PT X (.IfExp c a b pos) (upT X.K X.mg z W fun ls S => (tc ls S).bd fun x S1 => match x with
    | .bl true => ta ls S1
    | .bl false => tb ls S1
    | _ => .bad) := (pt_ite hc ha hb).imp' fun σ H Q h => by
  obtain ⟨φ, S, ls, h, g⟩ := h
  refine upT_seq (G := fun φ S H r => givesT X.K X.mg z W σ φ S H Q r) h g (fun _ _ _ h => h) (fun _ _ _ _ _ _ h => h) (fun d S1 hk => by cases d <;> first | rfl | exact absurd rfl (hk _)) fun k S1 φ1 H1 _ st1 h1 g1 => ?_
  have g2 := givesT_step st1 g1
  cases k with
  | true => rw [if_pos rfl]; exact ⟨φ1, S1, ls, h1, g2⟩
  | false => rw [if_neg Bool.false_ne_true]; exact ⟨φ1, S1, ls, h1, g2⟩
/-- and, or: one more ahead -/
theorem pe_andD {rest : List Expr} {ta tb : Loc → Sto → Res D} (ha : PE X a (up X.K X.mg z W ta)) (hb : PE X (.BoolOp .And (b :: rest) pos) (up X.K X.mg z W tb)) : PE X (.BoolOp .And (a :: b :: rest) pos) (up X.K X.mg z W fun ls S => (ta ls S).bd fun d S1 => match d with
    | .bl true => tb ls S1
    | .bl false => .ok (.bl false) S1
    | _ => .bad) := (pe_and ha hb).imp' fun σ H Q h => by
  obtain ⟨φ, S, ls, h, g⟩ := h
  refine up_seq (G := fun φ S H r => gives X.K X.mg z W σ φ S H Q r) h g (fun _ _ _ h => h) (fun _ _ _ _ _ _ h => h) fun d S1 φ1 H1 v _ st1 h1 r1 g1 => ?_
  have g2 := gives_step st1 g1
  cases d with
  | bl k =>
    cases r1
    refine ⟨k, rfl, ?_⟩
    cases k with
    | true => rw [if_pos rfl]; exact ⟨φ1, S1, ls, h1, g2⟩
    | false => rw [if_neg Bool.false_ne_true]; exact gives_ok h1 g2 (.bl _)
  | _ => exact g2.elim
theorem pe_orD {rest : List Expr} {ta tb : Loc → Sto → Res D} (ha : PE X a (up X.K X.mg z W ta)) (hb : PE X (.BoolOp .Or (b :: rest) pos) (up X.K X.mg z W tb)) : PE X (.BoolOp .Or (a :: b :: rest) pos) (up X.K X.mg z W fun ls S => (ta ls S).bd fun d S1 => match d with
    | .bl true => .ok (.bl true) S1
    | .bl false => tb ls S1
    | _ => .bad) := (pe_or ha hb).imp' fun σ H Q h => by
  obtain ⟨φ, S, ls, h, g⟩ := h
  refine up_seq (G := fun φ S H r => gives X.K X.mg z W σ φ S H Q r) h g (fun _ _ _ h => h) (fun _ _ _ _ _ _ h => h) fun d S1 φ1 H1 v _ st1 h1 r1 g1 => ?_
  have g2 := gives_step st1 g1
  cases d with
  | bl k =>
    cases r1
    refine ⟨k, rfl, ?_⟩
    cases k with
    | true => rw [if_pos rfl]; exact gives_ok h1 g2 (.bl _)
    | false => rw [if_neg Bool.false_ne_true]; exact ⟨φ1, S1, ls, h1, g2⟩
  | _ => exact g2.elim
theorem pw_andD {rest : List Expr} {ta tb : Loc → Sto → Res D} (ha : PT X a (upT X.K X.mg z W ta)) (hb : PW X (.BoolOp .And (b :: rest) pos) (upT X.K X.mg z W tb)) : PW X (.BoolOp .And (a :: b :: rest) pos) (upT X.K X.mg z W fun ls S => (ta ls S).bd fun d S1 => match d with
    | .bl true => tb ls S1
    | .bl false => .ok (.bl false) S1
    | _ => .bad) := (pw_and ha hb).imp' fun σ H Q h => by
  obtain ⟨φ, S, ls, h, g⟩ := h
  refine upT_seq (G := fun φ S H r => givesT X.K X.mg z W σ φ S H Q r) h g (fun _ _ _ h => h) (fun _ _ _ _ _ _ h => h) (fun d S1 hk => by cases d <;> first | rfl | exact absurd rfl (hk _)) fun k S1 φ1 H1 _ st1 h1 g1 => ?_
  have g2 := givesT_step st1 g1
  cases k with
  | true => rw [if_pos rfl]; exact ⟨φ1, S1, ls, h1, g2⟩
  | false => rw [if_neg Bool.false_ne_true]; exact g2 φ1 H1 Stp.refl h1.w
theorem pw_orD {rest : List Expr} {ta tb : Loc → Sto → Res D} (ha : PT X a (upT X.K X.mg z W ta)) (hb : PW X (.BoolOp .Or (b :: rest) pos) (upT X.K X.mg z W tb)) : PW X (.BoolOp .Or (a :: b :: rest) pos) (upT X.K X.mg z W fun ls S => (ta ls S).bd fun d S1 => match d with
    | .bl true => .ok (.bl true) S1
    | .bl false => tb ls S1
    | _ => .bad) := (pw_or ha hb).imp' fun σ H Q h => by
  obtain ⟨φ, S, ls, h, g⟩ := h
  refine upT_seq (G := fun φ S H r => givesT X.K X.mg z W σ φ S H Q r) h g (fun _ _ _ h => h) (fun _ _ _ _ _ _ h => h) (fun d S1 hk => by cases d <;> first | rfl | exact absurd rfl (hk _)) fun k S1 φ1 H1 _ st1 h1 g1 => ?_
  have g2 := givesT_step st1 g1
  cases k with
  | true => rw [if_pos rfl]; exact g2 φ1 H1 Stp.refl h1.w
  | false => rw [if_neg Bool.false_ne_true]; exact ⟨φ1, S1, ls, h1, g2⟩

/-! ### slices -/
theorem po_noD : PO X none (upO X.K X.mg z W fun _ S => .ok none S) := po_none.imp' fun σ H Q h => by
  obtain ⟨φ, S, ls, h, g⟩ := h
  exact g φ H Stp.refl h.w
theorem po_soD {w : Loc → Sto → Res D} (h : PE X e (up X.K X.mg z W w)) : PO X (some e) (upO X.K X.mg z W fun ls S => (w ls S).bd fun d S1 => match d with
    | .int i => .ok (some i) S1
    | _ => .bad) := (po_some h).imp' fun σ H Q h => by
  obtain ⟨φ, S, ls, h, g⟩ := h
  refine up_seq (G := fun φ S H (r : Res (Option Int)) => match r with
    | .ok o S' => ∀ φ' H', Stp φ S H φ' S' H' → Wld X.K φ' S' H' z.B → Q o H'
    | .exc c fs S' => eEx X.K X.mg z W σ S' c fs
    | .bad => False) h g (fun _ _ _ h => h) (fun _ _ _ _ _ _ h => h) fun d S1 φ1 H1 v _ st1 h1 r1 g1 => ?_
  cases d with
  | int i =>
    cases r1
    exact ⟨i, rfl, g1 φ1 H1 st1 h1.w⟩
  | _ => exact g1.elim
theorem cutG_rep {xs : List D} {vs : List V} (r : Reps K φ L H xs vs) (lo hi : Option Int) : Reps K φ L H (cutG xs lo hi) (cutV vs lo hi) := by
  unfold cutG cutV
  rw [r.length]
  exact (r.drop _).take _
theorem cutS_list (x : List Nat) (lo hi : Option Int) : cutS ⟨x.toArray⟩ lo hi = ⟨(cutG x lo hi).toArray⟩ := by
  unfold cutS cutG
  show Str.mk _ = Str.mk _
  congr 1
def rSlAny (K : PySem.W.Frag) (z : W0) : V → Option Int → Option Int → Hp → VK → Prop := fun x lo hi H Q => ∃ φ S a d, Wld K φ S H z.B ∧ Rep K φ (LB φ S z.B) H a x ∧ slcD S a lo hi = some d ∧ eNew K z φ S S H d Q
theorem sl_any : SlR X (rSlAny X.K z) := by
  intro pins s σ H x v vl vu lo hi sl Q I rx hs pl pu h
  obtain ⟨φ, S, a, d, Wd, ra, e, q⟩ := h
  unfold slcD at e
  split at e
  · rename_i xs h
    obtain ⟨p, vs, rfl, hs', hr⟩ := ra.drf_lst Wd h
    have e' := Option.some.inj e
    subst e'
    exact sl_list pins s σ H _ v vl vu lo hi sl Q I rx hs pl pu ⟨p, vs, rfl, SqL.of hs', fun p hp => eNew_lst Wd q (cutG_rep hr lo hi) hp⟩
  · rename_i xs h
    obtain ⟨p, vs, rfl, hs', hr⟩ := ra.drf_ro Wd h
    have e' := Option.some.inj e
    subst e'
    exact sl_list pins s σ H _ v vl vu lo hi sl Q I rx hs pl pu ⟨p, vs, rfl, hs'.sq, fun p hp => eNew_lst Wd q (cutG_rep hr lo hi) hp⟩
  · rename_i xs h
    obtain ⟨p, vs, rfl, hs', hr⟩ := ra.drf_tup Wd h
    have e' := Option.some.inj e
    subst e'
    refine sl_tupF pins s σ H _ v vl vu lo hi sl Q I rx hs pl pu ⟨p, vs, rfl, hs'.sq, fun hw => ?_, fun hw p o hp hd => ?_⟩
    · have ew : cutG xs lo hi = xs := by
        unfold cutG
        rw [hr.length, hw.1, hw.2, List.drop_zero, Nat.sub_zero, ← hr.length, List.take_length]
      rw [ew] at q
      exact eOk_here Wd q (.tup hs' hr)
    · exact q φ _ _ (Stp.upd hp) (Wd.upd hp) (Rep.newTup Wd (cutG_rep hr lo hi) hp hd)
  · rename_i x0 h
    rw [drf_str h] at ra
    cases ra
    split at e
    · rename_i hz
      have e' := Option.some.inj e
      subst e'
      exact sl_str pins s σ H _ v vl vu lo hi sl Q I rx hs pl pu ⟨_, rfl, by rw [sz_eq]; simpa [Str.length] using hz, by rw [cutS_list]; exact eOk_here Wd q (.str _)⟩
    · cases e
  · cases e
theorem pe_slcD {lo hi : Option Expr} {p2 : Pos} {ta : Loc → Sto → Res D} {tl th : Loc → Sto → Res (Option Int)} (ha : PE X a (up X.K X.mg z W ta)) (hl : PO X lo (upO X.K X.mg z W tl)) (hh : PO X hi (upO X.K X.mg z W th)) :
    PE X (.Subscript a (.Slice lo hi none p2) pos) (upN X.K X.mg z W fun ls S => (ta ls S).bd fun x S1 => (tl ls S1).bd fun l S2 => (th ls S2).bd fun h S3 => ofO S3 (slcD S3 x l h)) := (pe_slice sl_any ha hl hh).imp' fun σ H Q h => by
  obtain ⟨φ, S, ls, h, g⟩ := h
  refine up_seq (G := fun φ S H r => givesN X.K X.mg z W σ φ S H Q r) h g (fun _ _ _ h => h) (fun _ _ _ _ _ _ h => h) fun d S1 φ1 H1 v _ st1 h1 r1 g1 => ?_
  have g2 := givesN_step st1 g1
  refine ⟨φ1, S1, ls, h1, ?_⟩
  cases e1 : tl ls S1 with
  | bad => rw [e1] at g2; exact g2
  | exc c fs S' => rw [e1] at g2; exact g2
  | ok l S2 =>
    rw [e1] at g2
    intro φ2 H2 st2 wd2
    have h2 := h1.step st2 wd2
    have g3 := givesN_step st2 g2
    refine ⟨φ2, S2, ls, h2, ?_⟩
    rw [Res.bd_ok] at g3
    cases e2 : th ls S2 with
    | bad => rw [e2] at g3; exact g3
    | exc c fs S' => rw [e2] at g3; exact g3
    | ok u S3 =>
      rw [e2] at g3
      intro φ3 H3 st3 wd3
      have g4 := givesN_step st3 g3
      rw [Res.bd_ok] at g4
      cases e3 : slcD S3 d l u with
      | none => rw [e3] at g4; exact g4.elim
      | some w =>
        rw [e3] at g4
        exact ⟨φ3, S3, d, w, wd3, (r1.step st2).step st3, e3, g4⟩
theorem pe_revD {k : Nat} {p1 p2 p3 : Pos} {ta : Loc → Sto → Res D} (ha : PE X a (up X.K X.mg z W ta)) :
    PE X (.Subscript a (.Slice none none (some (.UnaryOp .USub (.Constant (.int 1) k p1) p2)) p3) pos) (upN X.K X.mg z W fun ls S => (ta ls S).bd fun x S1 => match drf S1 x with
      | .lst xs => .ok (.lst xs.reverse) S1
      | _ => .bad) := (pe_revL ha).imp' fun σ H Q h => by
  obtain ⟨φ, S, ls, h, g⟩ := h
  refine up_seq (G := fun φ S H r => givesN X.K X.mg z W σ φ S H Q r) h g (fun _ _ _ h => h) (fun _ _ _ _ _ _ h => h) fun d S1 φ1 H1 v _ st1 h1 r1 g1 => ?_
  have g2 := givesN_step st1 g1
  cases e : drf S1 d with
  | lst xs =>
    rw [e] at g2
    obtain ⟨p, vs, rfl, hs', hr⟩ := r1.drf_lst h1.w e
    exact ⟨p, vs, rfl, SqL.of hs', fun p hp => eNew_lst h1.w g2 hr.reverse hp⟩
  | _ => rw [e] at g2; exact g2.elim
end
end Ev
/-! Ev10: built-in functions. -/
namespace Ev
open PySem PySem.Spec PyProof.Rows L2

section
variable {X : Cx} {z : W0} {W : WX} {φ : List Addr} {S : Sto} {H : Hp} {σ : L2.St} {pos : Pos}
/-- the arguments, then something -/
theorem upA_seq {K : PySem.W.Frag} {mg : Str → Option Value} {β : Type} {w : Loc → Sto → Res (List D)} {f : List D → Sto → Res β} {G : List Addr → Sto → Hp → Res β → Prop} {Q' : List V → Hp → Prop} {ls : Loc} (h : Here K z φ S ls σ H) (hg : G φ S H ((w ls S).bd f))
    (gb : ∀ φ S H, G φ S H .bad → False) (ge : ∀ φ S H c fs S', G φ S H (.exc c fs S') → eEx K mg z W σ S' c fs)
    (hq : ∀ ds S1 φ1 H1 vs, w ls S = .ok ds S1 → Stp φ S H φ1 S1 H1 → Here K z φ1 S1 ls σ H1 → Reps K φ1 (LB φ1 S1 z.B) H1 ds vs → G φ S H (f ds S1) → Q' vs H1) : upA K mg z W w σ H Q' := by
  refine ⟨φ, S, ls, h, ?_⟩
  cases e : w ls S with
  | bad => rw [e] at hg; exact gb _ _ _ hg
  | exc c fs S' => rw [e] at hg; exact ge _ _ _ _ _ _ hg
  | ok d S1 =>
    rw [e] at hg
    exact fun φ1 H1 v st wd rp => hq d S1 φ1 H1 v e st (h.step st wd) rp hg
/-- what a built-in promises -/
def rBl (K : PySem.W.Frag) (z : W0) (f : Bt) : List V → Hp → VK → Prop := fun vs H Q => ∃ φ S ds d, Wld K φ S H z.B ∧ Reps K φ (LB φ S z.B) H ds vs ∧ bltD S f ds = some d ∧ eNew K z φ S S H d Q
theorem tCB_up {f : Bt} {ws : Loc → Sto → Res (List D)} {Q : VK} (h : upN X.K X.mg z W (fun ls S => (ws ls S).bd fun ds S1 => ofO S1 (bltD S1 f ds)) σ H Q) : tCB (rBl X.K z f) (upA X.K X.mg z W ws) σ H Q := by
  obtain ⟨φ, S, ls, h, g⟩ := h
  refine upA_seq (G := fun φ S H r => givesN X.K X.mg z W σ φ S H Q r) h g (fun _ _ _ h => h) (fun _ _ _ _ _ _ h => h) fun ds S1 φ1 H1 vs _ st1 h1 r1 g1 => ?_
  have g2 := givesN_step st1 g1
  cases e : bltD S1 f ds with
  | none => rw [e] at g2; exact g2.elim
  | some u =>
    rw [e] at g2
    exact ⟨φ1, S1, ds, u, h1.w, r1, e, g2⟩
/-- the value behind each -/
def bltV : Bt → Value
  | .len => .builtin "len" | .tuple => .type "tuple" | .list => .type "list" | .sum => .builtin "sum"
  | .max1 => .builtin "max" | .min1 => .builtin "min" | .max2 => .builtin "max" | .min2 => .builtin "min"
  | .any => .builtin "any" | .all => .builtin "all" | .int1 => .type "int" | .str1 => .type "str"
  | .sorted => .builtin "sorted" | .dict1 => .type "dict" | .abs => .builtin "abs"
def bltX : Bt → Str
  | .len => "len" | .tuple => "tuple" | .list => "list" | .sum => "sum"
  | .max1 => "max" | .min1 => "min" | .max2 => "max" | .min2 => "min"
  | .any => "any" | .all => "all" | .int1 => "int" | .str1 => "str"
  | .sorted => "sorted" | .dict1 => "dict" | .abs => "abs"
theorem Reps.one {K : PySem.W.Frag} {L : Addr → Prop} {d : D} {vs : List V} (r : Reps K φ L H [d] vs) : ∃ v, vs = [v] ∧ Rep K φ L H d v := by
  cases r with
  | cons a b => cases b; exact ⟨_, rfl, a⟩
theorem Reps.two {K : PySem.W.Frag} {L : Addr → Prop} {d e : D} {vs : List V} (r : Reps K φ L H [d, e] vs) : ∃ v u, vs = [v, u] ∧ Rep K φ L H d v ∧ Rep K φ L H e u := by
  cases r with
  | cons a b => obtain ⟨u, rfl, c⟩ := b.one; exact ⟨_, _, rfl, a, c⟩
theorem eNew_up {K : PySem.W.Frag} {d : D} {Q : VK} (n : ∀ xs, d ≠ .lst xs) (h : eNew K z φ S S H d Q) : eOk K z φ S S H d Q := by
  cases d with
  | lst xs => exact absurd rfl (n xs)
  | _ => exact h
theorem eNew_val {K : PySem.W.Frag} {d : D} {v : V} {Q : VK} (n : ∀ xs, d ≠ .lst xs) (Wd : Wld K φ S H z.B) (h : eNew K z φ S S H d Q) (r : Rep K φ (LB φ S z.B) H d v) : Q v H := eNew_up n h φ H v Stp.refl Wd r
theorem mapM_ints : ∀ {xs : List D} {is : List Int}, xs.mapM asIn = some is → ∀ {K : PySem.W.Frag} {L : Addr → Prop} {vs : List V}, Reps K φ L H xs vs → vs = is.map V.int
  | [], is, e, _, _, _, r => by cases r; simp at e; subst e; rfl
  | x :: xs, is, e, _, _, _, r => by
    cases r with
    | cons r1 r2 =>
      rw [List.mapM_cons] at e
      cases x with
      | int i =>
        cases e2 : xs.mapM asIn with
        | none => rw [e2] at e; cases e
        | some js =>
          rw [e2] at e
          cases e
          cases r1
          rw [mapM_ints e2 r2]; rfl
      | _ => cases e
theorem mapM_bls : ∀ {xs : List D} {is : List Bool}, xs.mapM asBl = some is → ∀ {K : PySem.W.Frag} {L : Addr → Prop} {vs : List V}, Reps K φ L H xs vs → vs = is.map V.bl
  | [], is, e, _, _, _, r => by cases r; simp at e; subst e; rfl
  | x :: xs, is, e, _, _, _, r => by
    cases r with
    | cons r1 r2 =>
      rw [List.mapM_cons] at e
      cases x with
      | bl i =>
        cases e2 : xs.mapM asBl with
        | none => rw [e2] at e; cases e
        | some js =>
          rw [e2] at e
          cases e
          cases r1
          rw [mapM_bls e2 r2]; rfl
      | _ => cases e
theorem mapM_sts : ∀ {xs : List D} {is : List (List Nat)}, xs.mapM asSt = some is → ∀ {K : PySem.W.Frag} {L : Addr → Prop} {vs : List V}, Reps K φ L H xs vs → vs = (is.map fun s => (⟨s.toArray⟩ : Str)).map V.str
  | [], is, e, _, _, _, r => by cases r; simp at e; subst e; rfl
  | x :: xs, is, e, _, _, _, r => by
    cases r with
    | cons r1 r2 =>
      rw [List.mapM_cons] at e
      cases x with
      | str i =>
        cases e2 : xs.mapM asSt with
        | none => rw [e2] at e; cases e
        | some js =>
          rw [e2] at e
          cases e
          cases r1
          rw [mapM_sts e2 r2]; rfl
      | _ => cases e
mutual
theorem toPy_inj : ∀ {a b : D}, a.pur = true → b.pur = true → a.toPy = b.toPy → a = b
  | .non, b, _, h, e => by cases b <;> simp [D.toPy, D.pur] at e h <;> rfl
  | .bl _, b, _, h, e => by cases b <;> simp [D.toPy, D.pur] at e h; rw [e]
  | .int _, b, _, h, e => by cases b <;> simp [D.toPy, D.pur] at e h; rw [e]
  | .str _, b, _, h, e => by cases b <;> simp [D.toPy, D.pur] at e h; rw [e]
  | .tup xs, b, g, h, e => by
    cases b <;> simp only [D.toPy, D.pur, PyData.tuple.injEq, reduceCtorEq, Bool.false_eq_true] at e h g
    rw [toPys_inj g h e]
  | .lst xs, b, g, h, e => by
    cases b <;> simp only [D.toPy, D.pur, PyData.list.injEq, reduceCtorEq, Bool.false_eq_true] at e h g
    rw [toPys_inj g h e]
  | .dic _ _, _, g, _, _ => by simp [D.pur] at g
  | .loc _, _, g, _, _ => by simp [D.pur] at g
  | .ro _, _, g, _, _ => by simp [D.pur] at g
theorem toPys_inj : ∀ {a b : List D}, purs a = true → purs b = true → toPys a = toPys b → a = b
  | [], b, _, _, e => by cases b with
    | nil => rfl
    | cons _ _ => simp [toPys] at e
  | x :: xs, b, g, h, e => by
    cases b with
    | nil => simp [toPys] at e
    | cons y ys =>
      simp only [toPys, purs, Bool.and_eq_true, List.cons.injEq] at e g h
      rw [toPy_inj g.1 h.1 e.1, toPys_inj g.2 h.2 e.2]
end
theorem purs_mem : ∀ {xs : List D} {x : D}, purs xs = true → x ∈ xs → x.pur = true
  | y :: ys, x, h, m => by
    simp only [purs, Bool.and_eq_true] at h
    rcases List.mem_cons.mp m with e | m
    · rw [e]; exact h.1
    · exact purs_mem h.2 m
theorem fold_mem {α : Type} (f : α → α → Bool) : ∀ (xs : List α) (x : α), xs.foldl (fun a y => if f a y = true then y else a) x ∈ x :: xs
  | [], x => by simp
  | y :: ys, x => by
    rw [List.foldl_cons]
    have h := fold_mem f ys (if f x y = true then y else x)
    rcases List.mem_cons.mp h with h | h
    · rw [h]; split <;> simp
    · exact List.mem_cons_of_mem _ (List.mem_cons_of_mem _ h)
theorem max_py (f : PyData → PyData → Bool) : ∀ (xs : List D) (x : D), (toPys xs).foldl (fun a y => if f a y = true then y else a) x.toPy = (xs.foldl (fun a y => if f a.toPy y.toPy = true then y else a) x).toPy
  | [], x => rfl
  | y :: ys, x => by
    rw [toPys, List.foldl_cons, List.foldl_cons]
    split
    · exact max_py f ys y
    · exact max_py f ys x
theorem alikeAll_of {xs : List D} (h : alikeB xs = true) (n : nonB xs = true) (p : purs xs = true) : PySem.W.AlikeAll (toPys xs) := by
  rw [toPys_map]
  refine ⟨fun x hx y hy => ?_, fun x hx => ?_⟩
  · obtain ⟨a, ha, rfl⟩ := List.mem_map.mp hx
    obtain ⟨b, hb, rfl⟩ := List.mem_map.mp hy
    exact List.all_eq_true.mp (List.all_eq_true.mp h a ha) b hb
  · obtain ⟨a, ha, rfl⟩ := List.mem_map.mp hx
    have q := List.all_eq_true.mp n a ha
    have pa := purs_mem p ha
    cases a <;> simp [D.toPy, isNon, D.pur] at q pa ⊢
/-- max(xs), min(xs): the value -/
theorem max_val (hc : X.calm = true) (hu : X.A.units + 200 < cLine) (mx : Bool) {pins : List (Addr × Obj)} {s : Shared} {Q : VK} (I : Inv X pins σ H s) {v : V} {u : Value} {d x : D} {xs : List D} (Wd : Wld X.K φ S H z.B) (r : Rep X.K φ (LB φ S z.B) H d v) (rv : RelV v u) (e : seqD S d = some (x :: xs))
    (hp : purs (x :: xs) = true) (ha : alikeB (x :: xs) = true) (hn : nonB (x :: xs) = true) (hd : deps (x :: xs) ≤ 100) (hl : nlst (foldM mx x xs) = true) (q : eNew X.K z φ S S H (foldM mx x xs) Q) :
    wpAny (model X.prog X.w) X.A (call (.builtin (if mx = true then "max" else "min")) [u]) (EP X pins σ Q) X.xe s := by
  obtain ⟨a, vs, rfl, hs, hr⟩ := r.seq Wd e
  cases rv
  have hm : foldM mx x xs ∈ x :: xs := fold_mem (fun a y => if mx = true then dlt a y else dlt y a) xs x
  have hpm := purs_mem hp hm
  have hA := alikeAll_of ha hn hp
  have hu' : X.A.units + 1 + PyData.depthAll (x.toPy :: toPys xs) < cLine := by
    have : PyData.depthAll (toPys (x :: xs)) = deps (x :: xs) := deps_py _
    rw [toPys] at this
    omega
  have q' : eOk X.K z φ S S H (foldM mx x xs) Q := eNew_up (fun ys h => by rw [h] at hl; cases hl) q
  have fin : ∀ {its : List Value}, Vals vs its → ∀ (i : Nat) (w : Value) (h' : Heap) (tk : Nat) (bs : List Addr), its[i]? = some w → Reads h' w (foldM mx x xs).toPy bs → (∀ b o, s.heap.get? b = some o → h'.get? b = some o) → EP X pins σ Q w { s with heap := h', toks := tk } := by
    intro its rvs i w h' tk bs hi hre hk
    have hil : i < its.length := (List.getElem?_eq_some_iff.mp hi).1
    have hiv : i < vs.length := by rw [rvs.length]; exact hil
    obtain ⟨vi, hvi⟩ : ∃ vi, vs[i]? = some vi := ⟨vs[i], List.getElem?_eq_getElem hiv⟩
    obtain ⟨di, hdi, rdi⟩ := hr.getV hvi
    obtain ⟨w', hw', rw'⟩ := rvs.get hvi
    rw [hi] at hw'
    cases hw'
    have mdi : di ∈ x :: xs := List.mem_of_getElem? hdi
    obtain ⟨as2, q2⟩ := Rep.reads I di vi w (purs_mem hp mdi) rdi rw'
    have q3 := Reads.keeps hk q2
    have al : PySem.W.alike di.toPy (foldM mx x xs).toPy = true := List.all_eq_true.mp (List.all_eq_true.mp ha di mdi) _ hm
    have ee := PySem.W.alike_unique _ _ _ _ _ al q3 hre
    have ed := toPy_inj (purs_mem hp mdi) hpm ee
    rw [← ed] at q'
    exact ⟨vi, H, I.kept hk, rw', q' φ H vi Stp.refl Wd rdi⟩
  cases mx with
  | true =>
    have me : PySem.W.maxD x.toPy (toPys xs) = (foldM true x xs).toPy := max_py (fun a y => PySem.W.dataLt a y) xs x
    rcases hs with hs | hs
    · obtain ⟨its, rvs, pl, hz⟩ := I.list hs
      obtain ⟨as, ra⟩ := Reps.reads I _ _ _ hp hr rvs
      exact PySem.W.max_list_data (I.ok.hd hc) pl.isList (by simpa [toPys] using ra) hA hu' fun i w h' tk bs hi hre hk => fin rvs i w h' tk bs (by simpa using hi) (by rw [← me]; exact hre) hk
    · obtain ⟨its, rvs, pl, hz⟩ := I.tuple hs
      obtain ⟨as, ra⟩ := Reps.reads I _ _ _ hp hr rvs
      exact PySem.W.max_tuple_data (I.ok.hd hc) (show s.heap.IsTuple _ its.toArray from pl) (by simpa [toPys] using ra) hA hu' fun i w h' tk bs hi hre hk => fin rvs i w h' tk bs (by simpa using hi) (by rw [← me]; exact hre) hk
  | false =>
    have me : PySem.W.minD x.toPy (toPys xs) = (foldM false x xs).toPy := max_py (fun a y => PySem.W.dataLt y a) xs x
    rcases hs with hs | hs
    · obtain ⟨its, rvs, pl, hz⟩ := I.list hs
      obtain ⟨as, ra⟩ := Reps.reads I _ _ _ hp hr rvs
      exact PySem.W.min_list_data (I.ok.hd hc) pl.isList (by simpa [toPys] using ra) hA hu' fun i w h' tk bs hi hre hk => fin rvs i w h' tk bs (by simpa using hi) (by rw [← me]; exact hre) hk
    · obtain ⟨its, rvs, pl, hz⟩ := I.tuple hs
      obtain ⟨as, ra⟩ := Reps.reads I _ _ _ hp hr rvs
      exact PySem.W.min_tuple_data (I.ok.hd hc) (show s.heap.IsTuple _ its.toArray from pl) (by simpa [toPys] using ra) hA hu' fun i w h' tk bs hi hre hk => fin rvs i w h' tk bs (by simpa using hi) (by rw [← me]; exact hre) hk

/-! ### sorted -/
theorem each_of {pins : List (Addr × Obj)} {s : Shared} {L : Addr → Prop} (I : Inv X pins σ H s) : ∀ {ds : List D} {vs : List V} {us : List Value}, purs ds = true → Reps X.K φ L H ds vs → Vals vs us →
    PySem.W.EachIs (fun u d => ∃ v, RelV v u ∧ Rep X.K φ L H d v) us ds ∧ PySem.W.EachIs (fun u (d : D) => ∃ as, Reads s.heap u d.toPy as) us ds
  | _, _, _, _, .nil, rv => by cases rv; exact ⟨.nil, .nil⟩
  | _, _, _, hp, .cons r1 r2, rv => by
    simp only [purs, Bool.and_eq_true] at hp
    cases rv with
    | cons q1 q2 =>
      obtain ⟨a, b⟩ := each_of I hp.2 r2 q2
      exact ⟨.cons ⟨_, q1, r1⟩ a, .cons (Rep.reads I _ _ _ hp.1 r1 q1) b⟩
theorem of_each {K : PySem.W.Frag} {L : Addr → Prop} {ds : List D} {us : List Value} (h : PySem.W.EachIs (fun u d => ∃ v, RelV v u ∧ Rep K φ L H d v) us ds) : ∃ vs, Vals vs us ∧ Reps K φ L H ds vs := by
  induction h with
  | nil => exact ⟨[], .nil, .nil⟩
  | cons a b ih =>
    obtain ⟨v, h1, h2⟩ := a
    obtain ⟨vs, h3, h4⟩ := ih
    exact ⟨v :: vs, .cons h1 h3, .cons h2 h4⟩
theorem sort_val (hu : X.A.units + 200 < cLine) {pins : List (Addr × Obj)} {s : Shared} {Q : VK} (I : Inv X pins σ H s) {v : V} {u : Value} {d : D} {xs : List D} (Wd : Wld X.K φ S H z.B) (r : Rep X.K φ (LB φ S z.B) H d v) (rv : RelV v u) (e : drf S d = .lst xs)
    (hp : purs xs = true) (ha : alikeB xs = true) (hn : tupsB xs = true) (hd : deps xs ≤ 100) (q : eNew X.K z φ S S H (.lst (srtD xs)) Q) :
    wpAny (model X.prog X.w) X.A (call (.builtin "sorted") [u]) (EP X pins σ Q) X.xe s := by
  obtain ⟨a, vs, rfl, hs, hr⟩ := r.drf_lst Wd e
  cases rv
  obtain ⟨its, rvs, pl, hz⟩ := I.list (SqL.of hs)
  obtain ⟨e1, e2⟩ := each_of I hp hr rvs
  have hlen := hr.length
  have hAl : PySem.W.AllAlike (xs.map D.toPy) := fun x hx y hy => by
    obtain ⟨a, ha', rfl⟩ := List.mem_map.mp hx
    obtain ⟨b, hb, rfl⟩ := List.mem_map.mp hy
    exact List.all_eq_true.mp (List.all_eq_true.mp ha a ha') b hb
  have hSo : PySem.W.Sortable (xs.map D.toPy) := by
    unfold tupsB at hn
    rcases Bool.or_eq_true_iff.mp hn with h | h
    · refine .inl fun x hx => ?_
      obtain ⟨a, ha', rfl⟩ := List.mem_map.mp hx
      have q := List.all_eq_true.mp h a ha'
      cases a with
      | tup ys => cases ys with
        | nil => cases q
        | cons y ys => exact ⟨y.toPy, toPys ys, by simp [D.toPy, toPys]⟩
      | _ => cases q
    · refine .inr fun x hx => ?_
      obtain ⟨a, ha', rfl⟩ := List.mem_map.mp hx
      have q := List.all_eq_true.mp h a ha'
      have pa := purs_mem hp ha'
      cases a <;> simp [D.toPy, D.pur] at q pa ⊢
  have hdm : ∀ b, b ∈ xs → X.A.units + 2 + (b.toPy).depth < cLine := fun b hb => by
    have h1 : b.dep ≤ deps xs := by
      clear e1 e2 hlen hAl hSo q ha hn hr hp e r
      induction xs with
      | nil => cases hb
      | cons y ys ih =>
        rw [deps]
        rcases List.mem_cons.mp hb with h | h
        · rw [h]; exact Nat.le_max_left _ _
        · exact Nat.le_trans (ih (by rw [deps] at hd; omega) h) (Nat.le_max_right _ _)
    have := dep_py b
    omega
  have hz' : xs.length ≤ sizeLine := by rw [hlen]; exact hz
  refine PySem.W.sorted_data (enc := D.toPy) pl.isList e1 e2 hAl hSo hz' hdm fun out hol ho => ?_
  obtain ⟨ws, w1, w2⟩ := of_each ho
  obtain ⟨ep, he'⟩ := PyProof.Rows.sortedAll_at s.heap its out.toArray
  have hlen2 : ws.length ≤ sizeLine := by
    rw [w1.length, hol]; exact hz'
  have hf : H (s.heap.objs.size + 1) = none := I.hok.fresh (Nat.le_succ _)
  exact ⟨.ref _, upd H (s.heap.objs.size + 1) (.lst ws), I.laid (t' := s.toks) (fun _ _ => PyProof.Rows.sortedAll_old) (Nat.le_succ _) ⟨hlen2, out, ep, w1, he'⟩, rfl, q φ H _ ws Stp.refl Wd w2 hf⟩
end
end Ev
/-! Ev11: every built-in, by its reading; isinstance. -/
namespace Ev
open PySem PySem.Spec PyProof.Rows L2

section
variable {X : Cx} {z : W0} {W : WX} {φ : List Addr} {S : Sto} {H : Hp} {σ : L2.St} {pos : Pos}
theorem CallR.imp' {f : Value} {r r' : List V → Hp → VK → Prop} (h : CallR X f r) (i : ∀ xs H Q, r' xs H Q → r xs H Q) : CallR X f r' := fun pins s σ H xs us Q I rv q => h pins s σ H xs us Q I rv (i _ _ _ q)
def ar1 : Bt → Bool
  | .max2 => false | .min2 => false
  | _ => true
theorem bl_one {f : Bt} {ds : List D} {d : D} (hf : ar1 f = true) (e : bltD S f ds = some d) : ∃ a, ds = [a] := by
  rcases ds with _ | ⟨a, _ | ⟨b, ds⟩⟩
  · cases f <;> simp [bltD, ar1] at e hf
  · exact ⟨a, rfl⟩
  · cases f <;> simp [bltD, ar1] at e hf
theorem bl_len : CallR X (.builtin "len") (rBl X.K z .len) := by
  intro pins s σ H xs us Q I rv h
  obtain ⟨φ, S, ds, d, Wd, r, e, q⟩ := h
  obtain ⟨a, rfl⟩ := bl_one rfl e
  unfold bltD at e
  dsimp only at e
  obtain ⟨v, hv, r'⟩ := r.one
  subst hv
  clear r
  have r := r'
  clear r'
  split at e
  · rename_i ys h
    cases e
    obtain ⟨p, vs, rfl, hs, hr⟩ := r.drf_lst Wd h
    refine call_len pins s σ H _ us Q I rv ⟨_, vs.length, rfl, .inl ⟨vs, SqL.of hs, rfl⟩, ?_⟩
    rw [← hr.length]; exact eNew_val (fun _ h => by cases h) Wd q (.int _)
  · rename_i ys h
    cases e
    obtain ⟨p, vs, rfl, hs, hr⟩ := r.drf_tup Wd h
    refine call_len pins s σ H _ us Q I rv ⟨_, vs.length, rfl, .inr ⟨vs, hs.sq, rfl⟩, ?_⟩
    rw [← hr.length]; exact eNew_val (fun _ h => by cases h) Wd q (.int _)
  · rename_i ys h
    cases e
    obtain ⟨p, vs, rfl, hs, hr⟩ := r.drf_ro Wd h
    refine call_len pins s σ H _ us Q I rv ⟨_, vs.length, rfl, .inl ⟨vs, hs.sq, rfl⟩, ?_⟩
    rw [← hr.length]; exact eNew_val (fun _ h => by cases h) Wd q (.int _)
  · rename_i y h
    rw [drf_str h] at r
    cases r
    split at e
    · rename_i hl
      cases e
      refine call_len pins s σ H _ us Q I rv ⟨_, y.length, rfl, by show _ ∧ _; exact ⟨by rw [sz_eq]; simpa [Str.length] using hl, by simp [Str.length]⟩, ?_⟩
      exact eNew_val (fun _ h => by cases h) Wd q (.int _)
    · cases e
  · rename_i ks ys h
    cases e
    obtain ⟨p, ws, vs, rfl, hs, hk, hr, hl⟩ := r.drf_dic Wd h
    refine call_lenD pins s σ H _ us Q I rv ⟨_, _, rfl, hs, ?_⟩
    have hlen := congrArg List.length hk
    simp only [List.length_map] at hlen
    have : (ws.zip vs).length = ks.length := by rw [List.length_zip]; omega
    rw [this]; exact eNew_val (fun _ h => by cases h) Wd q (.int _)
  · cases e
theorem bl_tuple : CallR X (.type "tuple") (rBl X.K z .tuple) := by
  intro pins s σ H xs us Q I rv h
  obtain ⟨φ, S, ds, d, Wd, r, e, q⟩ := h
  obtain ⟨a, rfl⟩ := bl_one rfl e
  unfold bltD at e
  dsimp only at e
  obtain ⟨v, hv, r'⟩ := r.one
  subst hv
  clear r
  have r := r'
  clear r'
  cases h0 : seqD S a with
  | none => rw [h0] at e; cases e
  | some ys =>
    rw [h0] at e
    cases e
    have q' : eOk X.K z φ S S H (.tup ys) Q := q
    unfold seqD at h0
    split at h0
    · rename_i zs h
      cases h0
      obtain ⟨p, vs, rfl, hs, hr⟩ := r.drf_lst Wd h
      exact call_tupleF pins s σ H _ us Q I rv ⟨p, vs, rfl, .inl ⟨SqL.of hs, fun l o hl hd => q' φ _ _ (Stp.upd hl) (Wd.upd hl) (Rep.newTup Wd hr hl hd)⟩⟩
    · rename_i zs h
      cases h0
      obtain ⟨p, vs, rfl, hs, hr⟩ := r.drf_tup Wd h
      exact call_tupleF pins s σ H _ us Q I rv ⟨p, vs, rfl, .inr ⟨hs.sq, q' φ _ _ Stp.refl Wd (.tup hs hr)⟩⟩
    · rename_i zs h
      cases h0
      obtain ⟨p, vs, rfl, hs, hr⟩ := r.drf_ro Wd h
      exact call_tupleF pins s σ H _ us Q I rv ⟨p, vs, rfl, .inl ⟨hs.sq, fun l o hl hd => q' φ _ _ (Stp.upd hl) (Wd.upd hl) (Rep.newTup Wd hr hl hd)⟩⟩
    · cases h0
theorem bl_list : CallR X (.type "list") (rBl X.K z .list) := by
  intro pins s σ H xs us Q I rv h
  obtain ⟨φ, S, ds, d, Wd, r, e, q⟩ := h
  obtain ⟨a, rfl⟩ := bl_one rfl e
  unfold bltD at e
  dsimp only at e
  obtain ⟨v, hv, r'⟩ := r.one
  subst hv
  clear r
  have r := r'
  clear r'
  cases h0 : seqD S a with
  | none => rw [h0] at e; cases e
  | some ys =>
    rw [h0] at e
    cases e
    obtain ⟨p, vs, rfl, hs, hr⟩ := r.seq Wd h0
    exact call_list_of pins s σ H _ us Q I rv ⟨p, vs, rfl, hs, fun l hl => q φ H l vs Stp.refl Wd hr hl⟩
theorem bl_sum (hc : X.calm = true) : CallR X (.builtin "sum") (rBl X.K z .sum) := by
  intro pins s σ H xs us Q I rv h
  obtain ⟨φ, S, ds, d, Wd, r, e, q⟩ := h
  obtain ⟨a, rfl⟩ := bl_one rfl e
  unfold bltD at e
  dsimp only at e
  obtain ⟨v, hv, r'⟩ := r.one
  subst hv
  clear r
  have r := r'
  clear r'
  split at e
  · rename_i ys h
    cases e2 : ys.mapM asIn with
    | none => rw [e2] at e; cases e
    | some is =>
      rw [e2] at e
      cases e
      obtain ⟨p, vs, rfl, hs, hr⟩ := r.drf_lst Wd h
      have hv := mapM_ints e2 hr
      subst hv
      exact cr_sum hc pins s σ H _ us Q I rv ⟨p, is, rfl, SqL.of hs, eNew_val (fun _ h => by cases h) Wd q (.int _)⟩
  · cases e
theorem bl_any (hc : X.calm = true) : CallR X (.builtin "any") (rBl X.K z .any) := by
  intro pins s σ H xs us Q I rv h
  obtain ⟨φ, S, ds, d, Wd, r, e, q⟩ := h
  obtain ⟨a, rfl⟩ := bl_one rfl e
  unfold bltD at e
  dsimp only at e
  obtain ⟨v, hv, r'⟩ := r.one
  subst hv
  clear r
  have r := r'
  clear r'
  split at e
  · rename_i ys h
    cases e2 : ys.mapM asBl with
    | none => rw [e2] at e; cases e
    | some is =>
      rw [e2] at e
      cases e
      obtain ⟨p, vs, rfl, hs, hr⟩ := r.drf_lst Wd h
      have hv := mapM_bls e2 hr
      subst hv
      exact cr_any hc pins s σ H _ us Q I rv ⟨p, is, rfl, SqL.of hs, eNew_val (fun _ h => by cases h) Wd q (.bl _)⟩
  · cases e
theorem bl_all (hc : X.calm = true) : CallR X (.builtin "all") (rBl X.K z .all) := by
  intro pins s σ H xs us Q I rv h
  obtain ⟨φ, S, ds, d, Wd, r, e, q⟩ := h
  obtain ⟨a, rfl⟩ := bl_one rfl e
  unfold bltD at e
  dsimp only at e
  obtain ⟨v, hv, r'⟩ := r.one
  subst hv
  clear r
  have r := r'
  clear r'
  split at e
  · rename_i ys h
    cases e2 : ys.mapM asBl with
    | none => rw [e2] at e; cases e
    | some is =>
      rw [e2] at e
      cases e
      obtain ⟨p, vs, rfl, hs, hr⟩ := r.drf_lst Wd h
      have hv := mapM_bls e2 hr
      subst hv
      exact cr_all hc pins s σ H _ us Q I rv ⟨p, is, rfl, SqL.of hs, eNew_val (fun _ h => by cases h) Wd q (.bl _)⟩
  · cases e
theorem bl_max1 (hc : X.calm = true) (hu : X.A.units + 200 < cLine) : CallR X (.builtin "max") (rBl X.K z .max1) := by
  intro pins s σ H xs us Q I rv h
  obtain ⟨φ, S, ds, d, Wd, r, e, q⟩ := h
  obtain ⟨a, rfl⟩ := bl_one rfl e
  unfold bltD at e
  dsimp only at e
  obtain ⟨v, hv, r'⟩ := r.one
  subst hv
  clear r
  have r := r'
  clear r'
  obtain ⟨u, rfl, ru⟩ := vals1 rv
  split at e
  · rename_i x xs h
    split at e
    · rename_i hb
      simp only [Bool.and_eq_true, decide_eq_true_eq] at hb
      cases e
      exact max_val hc hu true I Wd r ru h hb.1.1.1.1 hb.1.1.1.2 hb.1.1.2 hb.1.2 hb.2 q
    · cases e
  · cases e
theorem bl_min1 (hc : X.calm = true) (hu : X.A.units + 200 < cLine) : CallR X (.builtin "min") (rBl X.K z .min1) := by
  intro pins s σ H xs us Q I rv h
  obtain ⟨φ, S, ds, d, Wd, r, e, q⟩ := h
  obtain ⟨a, rfl⟩ := bl_one rfl e
  unfold bltD at e
  dsimp only at e
  obtain ⟨v, hv, r'⟩ := r.one
  subst hv
  clear r
  have r := r'
  clear r'
  obtain ⟨u, rfl, ru⟩ := vals1 rv
  split at e
  · rename_i x xs h
    split at e
    · rename_i hb
      simp only [Bool.and_eq_true, decide_eq_true_eq] at hb
      cases e
      exact max_val hc hu false I Wd r ru h hb.1.1.1.1 hb.1.1.1.2 hb.1.1.2 hb.1.2 hb.2 q
    · cases e
  · cases e
theorem bl_sorted (hu : X.A.units + 200 < cLine) : CallR X (.builtin "sorted") (rBl X.K z .sorted) := by
  intro pins s σ H xs us Q I rv h
  obtain ⟨φ, S, ds, d, Wd, r, e, q⟩ := h
  obtain ⟨a, rfl⟩ := bl_one rfl e
  unfold bltD at e
  dsimp only at e
  obtain ⟨v, hv, r'⟩ := r.one
  subst hv
  clear r
  have r := r'
  clear r'
  obtain ⟨u, rfl, ru⟩ := vals1 rv
  split at e
  · rename_i xs h
    split at e
    · rename_i hb
      simp only [Bool.and_eq_true, decide_eq_true_eq] at hb
      cases e
      exact sort_val hu I Wd r ru h hb.1.1.1 hb.1.1.2 hb.1.2 hb.2 q
    · cases e
  · cases e
theorem inv_max2 {ds : List D} {d : D} (e : bltD S .max2 ds = some d) : ∃ i j, ds = [.int i, .int j] ∧ d = .int (if j > i then j else i) := by
  rcases ds with _ | ⟨a, _ | ⟨b, _ | ⟨c, ds⟩⟩⟩
  · simp [bltD] at e
  · cases a <;> simp [bltD] at e
  · cases a <;> try (simp [bltD] at e; done)
    cases b <;> try (simp [bltD] at e; done)
    exact ⟨_, _, rfl, (Option.some.inj e).symm⟩
  · cases a <;> try (simp [bltD] at e; done)
theorem inv_min2 {ds : List D} {d : D} (e : bltD S .min2 ds = some d) : ∃ i j, ds = [.int i, .int j] ∧ d = .int (if j < i then j else i) := by
  rcases ds with _ | ⟨a, _ | ⟨b, _ | ⟨c, ds⟩⟩⟩
  · simp [bltD] at e
  · cases a <;> simp [bltD] at e
  · cases a <;> try (simp [bltD] at e; done)
    cases b <;> try (simp [bltD] at e; done)
    exact ⟨_, _, rfl, (Option.some.inj e).symm⟩
  · cases a <;> try (simp [bltD] at e; done)
theorem bl_max2 (hc : X.calm = true) : CallR X (.builtin "max") (rBl X.K z .max2) := by
  intro pins s σ H xs us Q I rv h
  obtain ⟨φ, S, ds, d, Wd, r, e, q⟩ := h
  obtain ⟨i, j, rfl, rfl⟩ := inv_max2 e
  obtain ⟨v, u, rfl, r1, r2⟩ := r.two
  cases r1; cases r2
  exact call_max2 hc pins s σ H _ us Q I rv ⟨_, _, rfl, eNew_val (fun _ h => by cases h) Wd q (.int _)⟩
theorem bl_min2 (hc : X.calm = true) : CallR X (.builtin "min") (rBl X.K z .min2) := by
  intro pins s σ H xs us Q I rv h
  obtain ⟨φ, S, ds, d, Wd, r, e, q⟩ := h
  obtain ⟨i, j, rfl, rfl⟩ := inv_min2 e
  obtain ⟨v, u, rfl, r1, r2⟩ := r.two
  cases r1; cases r2
  exact call_min2 hc pins s σ H _ us Q I rv ⟨_, _, rfl, eNew_val (fun _ h => by cases h) Wd q (.int _)⟩
theorem bl_abs : CallR X (.builtin "abs") (rBl X.K z .abs) := by
  intro pins s σ H xs us Q I rv h
  obtain ⟨φ, S, ds, d, Wd, r, e, q⟩ := h
  obtain ⟨a, rfl⟩ := bl_one rfl e
  obtain ⟨v, rfl, r1⟩ := r.one
  cases a <;> try (simp [bltD] at e; done)
  cases e
  cases r1
  exact call_abs pins s σ H _ us Q I rv ⟨_, rfl, eNew_val (fun _ h => by cases h) Wd q (.int _)⟩
theorem bl_int1 : CallR X (.type "int") (rBl X.K z .int1) := by
  intro pins s σ H xs us Q I rv h
  obtain ⟨φ, S, ds, d, Wd, r, e, q⟩ := h
  obtain ⟨a, rfl⟩ := bl_one rfl e
  obtain ⟨v, rfl, r1⟩ := r.one
  cases a with
  | int i =>
    cases e
    cases r1
    exact call_int1 pins s σ H _ us Q I rv (.inl ⟨_, rfl, eNew_val (fun _ h => by cases h) Wd q (.int _)⟩)
  | bl i =>
    cases e
    cases r1
    exact call_int1 pins s σ H _ us Q I rv (.inr ⟨_, rfl, eNew_val (fun _ h => by cases h) Wd q (.int _)⟩)
  | _ => simp [bltD] at e
theorem bl_str1 : CallR X (.type "str") (rBl X.K z .str1) := by
  intro pins s σ H xs us Q I rv h
  obtain ⟨φ, S, ds, d, Wd, r, e, q⟩ := h
  obtain ⟨a, rfl⟩ := bl_one rfl e
  obtain ⟨v, rfl, r1⟩ := r.one
  cases a with
  | int i =>
    unfold bltD at e
    dsimp only at e
    cases r1
    split at e
    · rename_i hl
      cases e
      refine call_str_int pins s σ H _ us Q I rv ⟨_, rfl, hl, ?_⟩
      have := eNew_val (fun _ h => by cases h) Wd q (.str (K := X.K) _)
      simpa using this
    · cases e
  | _ => simp [bltD] at e
theorem call_bl (hc : X.calm = true) (hu : X.A.units + 200 < cLine) : ∀ f : Bt, CallR X (bltV f) (rBl X.K z f)
  | .len => bl_len | .tuple => bl_tuple | .list => bl_list | .sum => bl_sum hc
  | .max1 => bl_max1 hc hu | .min1 => bl_min1 hc hu | .max2 => bl_max2 hc | .min2 => bl_min2 hc
  | .any => bl_any hc | .all => bl_all hc | .int1 => bl_int1 | .str1 => bl_str1
  | .sorted => bl_sorted hu | .abs => bl_abs
  | .dict1 => by
    intro pins s σ H xs us Q I rv h
    obtain ⟨φ, S, ds, d, Wd, r, e, q⟩ := h
    obtain ⟨a, rfl⟩ := bl_one rfl e
    simp [bltD] at e
theorem boot_bl (f : Bt) : bootBuiltins (bltX f) = some (bltV f) := by cases f <;> decide +kernel
theorem pe_blt {f : Bt} {e : Expr} {es : List Expr} {ws : Loc → Sto → Res (List D)} {p : Pos} (hc : X.calm = true) (hu : X.A.units + 200 < cLine) (hg : Gl X (bltX f)) (hm : X.mg (bltX f) = none) (ha : PA X (e :: es) (upA X.K X.mg z W ws))
    (he : starEach (e :: es) X.env = (false, eval e X.env) :: starEach es X.env) (hpl : (backTo pos (starEach es X.env)).any (·.1) = false) :
    PE X (.Call (.Name (bltX f) p) (e :: es) [] pos) (upN X.K X.mg z W fun ls S => (ws ls S).bd fun ds S1 => ofO S1 (bltD S1 f ds)) := by
  have hb := boot_bl f
  have hC := call_bl (z := z) hc hu f
  have key : PE X (.Call (.Name (bltX f) p) (e :: es) [] pos) (tCB (rBl X.K z f) (upA X.K X.mg z W ws)) := by
    cases f <;> first
      | exact pe_callB hC hg hm hb ha (by decide) (by decide) he hpl
      | exact pe_callTy hC hg hm hb ha (by decide) (by decide) he hpl
  exact key.imp' fun σ H Q h => tCB_up h

/-! ### isinstance -/
def tyN (S : Sto) (d : D) : String := match drf S d with
  | .non => "NoneType" | .bl _ => "bool" | .int _ => "int" | .str _ => "str" | .tup _ => "tuple" | .lst _ => "list" | .ro _ => "list" | .dic _ _ => "dict" | .loc _ => ""
theorem sqL_ty {K : PySem.W.Frag} {a : Addr} {xs : List V} (h : SqL K H a xs) : TyX K H (.ref a) (.type "list") := by
  rcases h with (h | ⟨o, h⟩) | ⟨o, its, n, h, hc, _⟩
  · exact .base (.lst h)
  · exact .base (.frz h)
  · exact .kList h hc
theorem sqT_ty {K : PySem.W.Frag} {a : Addr} {xs : List V} (h : SqT K H a xs) : TyX K H (.ref a) (.type "tuple") := by
  rcases h with (h | ⟨o, h⟩) | ⟨o, its, n, h, hc, _⟩
  · exact .base (.tup h)
  · exact .fTuple h
  · exact .kTuple h hc
theorem ty_rep (Wd : Wld X.K φ S H z.B) {d : D} {v : V} (r : Rep X.K φ (LB φ S z.B) H d v) (n : tyN S d ≠ "") : TyX X.K H v (.type (tyN S d)) := by
  unfold tyN at n ⊢
  split
  · rename_i h; rw [drf_non h] at r; cases r; exact .base .non
  · rename_i h; rw [drf_bl h] at r; cases r; exact .base (.bl _)
  · rename_i h; rw [drf_int h] at r; cases r; exact .base (.int _)
  · rename_i h; rw [drf_str h] at r; cases r; exact .base (.str _)
  · rename_i h; obtain ⟨a, vs, rfl, hs, hr⟩ := r.drf_tup Wd h; exact sqT_ty hs.sq
  · rename_i h; obtain ⟨a, vs, rfl, hs, hr⟩ := r.drf_lst Wd h; exact sqL_ty (K := X.K) (SqL.of hs)
  · rename_i h; obtain ⟨a, vs, rfl, hs, hr⟩ := r.drf_ro Wd h; exact sqL_ty (K := X.K) hs.sq
  · rename_i h; obtain ⟨a, ws, us, rfl, hs, _⟩ := r.drf_dic Wd h; exact .base (.dK hs)
  · rename_i h; rw [h] at n; exact absurd rfl n
def isiT : List String := ["bool", "int", "str", "tuple", "list", "dict"]
def isiN : List String := ["NoneType", "bool", "int", "str", "tuple", "list", "dict"]
theorem kit_all : (isiN.all fun a => isiT.all fun b => kitB a b == some (a == b || (a == "bool" && b == "int"))) = true := by decide +kernel
theorem isi_kit {a b : String} (ha : a ∈ isiN) (hb : b ∈ isiT) : kitB a b = some (a == b || (a == "bool" && b == "int")) := by
  have h := List.all_eq_true.mp (List.all_eq_true.mp kit_all a ha) b hb
  exact beq_iff_eq.mp h
end
end Ev
/-! Ev12: isinstance, dicts of constants, methods, calls. -/
namespace Ev
open PySem PySem.Spec PyProof.Rows L2

section
variable {X : Cx} {z : W0} {W : WX} {φ : List Addr} {S : Sto} {H : Hp} {σ : L2.St} {pos : Pos} {e : Expr}

/-! ### isinstance(e, T) -/
theorem isi_n {S : Sto} {d : D} {T : String} {b : Bool} (hT : T ∈ isiT) (h : isiD S d T = some b) : tyN S d ∈ isiN ∧ b = (tyN S d == T || (tyN S d == "bool" && T == "int")) := by
  unfold isiD at h
  unfold tyN
  have hT' : T = "bool" ∨ T = "int" ∨ T = "str" ∨ T = "tuple" ∨ T = "list" ∨ T = "dict" := by simpa [isiT] using hT
  split at h
  all_goals first
    | cases h; done
    | (cases h; rename_i h; (try rw [h]); (try dsimp only); refine ⟨by decide, ?_⟩; rcases hT' with rfl | rfl | rfl | rfl | rfl | rfl <;> decide)
theorem pe_isiD {T : String} {w : Loc → Sto → Res D} {p p2 : Pos} (hT : T ∈ isiT) (hg : Gl X "isinstance") (hm : X.mg "isinstance" = none) (hgT : Gl X (Str.ofString T)) (hmT : X.mg (Str.ofString T) = none) (hbT : bootBuiltins (Str.ofString T) = some (.type T)) (hnT : Str.ofString T ≠ "__name__") (hdT : (Str.ofString T == ("__debug__" : Str)) = false)
    (ha : PE X e (up X.K X.mg z W w)) (he : starEach [e, .Name (Str.ofString T) p2] X.env = (false, eval e X.env) :: starEach [.Name (Str.ofString T) p2] X.env) :
    PE X (.Call (.Name "isinstance" p) [e, .Name (Str.ofString T) p2] [] pos) (up X.K X.mg z W fun ls S => (w ls S).bd fun d S1 => ofO S1 ((isiD S1 d T).map .bl)) := by
  have hb : bootBuiltins "isinstance" = some (.builtin "isinstance") := by decide +kernel
  refine (pe_callB call_isi hg hm hb (pa_cons ha (pa_cons (pe_bltn hgT hmT hbT (v := .ty T) rfl hnT hdT) pa_nil rfl) he) (by decide) (by decide) he rfl).imp' fun σ H Q h => ?_
  obtain ⟨φ, S, ls, h, g⟩ := h
  refine up_seq (G := fun φ S H r => gives X.K X.mg z W σ φ S H Q r) h g (fun _ _ _ h => h) (fun _ _ _ _ _ _ h => h) fun d S1 φ1 H1 v _ st1 h1 r1 g1 => ?_
  have g2 := gives_step st1 g1
  cases e : isiD S1 d T with
  | none => rw [e] at g2; exact g2.elim
  | some b =>
    rw [e] at g2
    obtain ⟨hN, hb⟩ := isi_n hT e
    have hne : tyN S1 d ≠ "" := fun h0 => by rw [h0] at hN; exact absurd hN (by decide)
    refine ⟨v, .ty T, .type (tyN S1 d), .type T, b, rfl, .ty T, ty_rep h1.w r1 hne, kit_ty ?_, ?_⟩
    · rw [isi_kit hN hT, hb]
    · exact gives_ok h1 g2 (.bl _)
theorem isi_boot {T : String} (hT : T ∈ isiT) : bootBuiltins (Str.ofString T) = some (.type T) ∧ Str.ofString T ≠ "__name__" ∧ (Str.ofString T == ("__debug__" : Str)) = false := by
  have hT' : T = "bool" ∨ T = "int" ∨ T = "str" ∨ T = "tuple" ∨ T = "list" ∨ T = "dict" := by simpa [isiT] using hT
  rcases hT' with rfl | rfl | rfl | rfl | rfl | rfl <;> decide +kernel

/-! ### dicts of constants -/
structure KD (X : Cx) (x : Str) (ks vs : List D) : Prop where
  ex : ∃ d es n, X.mg x = some (.ref d) ∧ KDict X.K X.w d es n ∧ ∀ t : List Nat, match look ks vs (.str t) with
    | some r => ∃ u v, PySem.W.nsIn X.K d ⟨t.toArray⟩ = some (some u) ∧ RelV v u ∧ ∀ φ L H, Rep X.K φ L H r v
    | none => PySem.W.nsIn X.K d ⟨t.toArray⟩ = some none
theorem ix_kd {d : Addr} {es : Array DictEntry} {n : Nat} (D : KDict X.K X.w d es n) :
    IxR X (fun x y H Q => ∃ (t : Str) (u0 : Value) (v0 : V), x = .ref d ∧ y = .str t ∧ PySem.W.nsIn X.K d t = some (some u0) ∧ RelV v0 u0 ∧ Q v0 H) := by
  intro value slice pins s σ H x y v u Q I rx ry h hs
  obtain ⟨t, u0, v0, rfl, rfl, e, r, q⟩ := h
  have key := op_item_kd D pins s σ H (.ref d) (.str t) v u Q I rx ry ⟨t, u0, v0, rfl, rfl, e, r, q⟩
  cases rx
  obtain ⟨k, rfl⟩ := ry
  exact tail_any (kd_type D I) PySem.F.slot_dict_getitem.lookup key hs
theorem pe_gixD {x : Str} {ks vs : List D} {w : Loc → Sto → Res D} {p : Pos} (hg : Gl X x) (hdb : (x == ("__debug__" : Str)) = false) (kd : KD X x ks vs) (hp : ∀ k ∈ ks, ∃ t, k = .str t) (he : PE X e (up X.K X.mg z W w)) (hs : PlainIx e) :
    PE X (.Subscript (.Name x p) e pos) (up X.K X.mg z W fun ls S => (w ls S).bd fun y S1 => ofO S1 (look ks vs y)) := by
  obtain ⟨d, es, n, hm, D, hk⟩ := kd.ex
  refine (pe_ix (ix_kd D) (pe_glob (v := .ref d) hg hm rfl hdb) he hs).imp' fun σ H Q h => ?_
  obtain ⟨φ, S, ls, h, g⟩ := h
  show up X.K X.mg z W w σ H _
  refine up_seq (G := fun φ S H r => gives X.K X.mg z W σ φ S H Q r) h g (fun _ _ _ h => h) (fun _ _ _ _ _ _ h => h) fun d1 S1 φ1 H1 v _ st1 h1 r1 g1 => ?_
  have g2 := gives_step st1 g1
  cases e1 : look ks vs d1 with
  | none => rw [e1] at g2; exact g2.elim
  | some b =>
    rw [e1] at g2
    have hK := look_isK e1
    have hst : ∃ t, d1 = .str t := by
      clear hk hm D kd he hs g g1 g2 r1 hK
      induction ks generalizing vs with
      | nil => simp [look] at e1
      | cons k ks ih =>
        cases vs with
        | nil => simp [look] at e1
        | cons u us =>
          rw [look] at e1
          split at e1
          · rename_i hsk
            obtain ⟨t, rfl⟩ := hp k (by simp)
            cases d1 <;> simp [sameK] at hsk
            exact ⟨_, rfl⟩
          · exact ih (fun k hk => hp k (by simp [hk])) e1
    obtain ⟨t, rfl⟩ := hst
    cases r1
    have hk' := hk t
    rw [e1] at hk'
    obtain ⟨u0, v0, n1, n2, n3⟩ := hk'
    exact ⟨_, u0, v0, rfl, rfl, n1, n2, gives_ok h1 g2 (n3 _ _ _)⟩
def rKd (X : Cx) (d : Addr) (neg : Bool) : R2 := fun x y H Q => ∃ (t : Str) (r : Option Value), x = .str t ∧ y = .ref d ∧ PySem.W.nsIn X.K d t = some r ∧ Q (.bl (r.isSome != neg)) H
theorem op_kd {d : Addr} {es : Array DictEntry} {n : Nat} (D : KDict X.K X.w d es n) : ∀ neg : Bool, OpR X (compareOp (if neg = true then .NotIn else .In)) (rKd X d neg)
  | false => OpR.imp' (op_in_kd D) fun x y H Q h => by
      obtain ⟨t, r, a, b, c, q⟩ := h
      exact ⟨t, r, a, b, c, by simpa using q⟩
  | true => OpR.imp' (op_notIn_kd D) fun x y H Q h => by
      obtain ⟨t, r, a, b, c, q⟩ := h
      exact ⟨t, r, a, b, c, by simpa using q⟩
def kdF (ks vs : List D) (neg : Bool) (w : Loc → Sto → Res D) : Loc → Sto → Res D := fun ls S => (w ls S).bd fun y S1 => match y with
  | .str t => .ok (.bl ((look ks vs (.str t)).isSome != neg)) S1
  | _ => .bad
theorem kd_up {d : Addr} {ks vs : List D} {w : Loc → Sto → Res D} {neg : Bool} {Q : VK} (hk : ∀ t : List Nat, match look ks vs (.str t) with
    | some r => ∃ u v, PySem.W.nsIn X.K d ⟨t.toArray⟩ = some (some u) ∧ RelV v u ∧ ∀ φ L H, Rep X.K φ L H r v
    | none => PySem.W.nsIn X.K d ⟨t.toArray⟩ = some none) (h : up X.K X.mg z W (kdF ks vs neg w) σ H Q) : tOp (rKd X d neg) (up X.K X.mg z W w) (tC (.ref d)) σ H Q := by
  obtain ⟨φ, S, ls, h, g⟩ := h
  refine up_seq (G := fun φ S H r => gives X.K X.mg z W σ φ S H Q r) h g (fun _ _ _ h => h) (fun _ _ _ _ _ _ h => h) fun d1 S1 φ1 H1 v _ st1 h1 r1 g1 => ?_
  have g2 := gives_step st1 g1
  cases d1 with
  | str t =>
    cases r1
    have hk' := hk t
    dsimp only at g2
    cases e1 : look ks vs (.str t) with
    | none =>
      rw [e1] at hk' g2
      exact ⟨_, _, rfl, rfl, hk', gives_ok h1 g2 (.bl _)⟩
    | some r =>
      rw [e1] at hk' g2
      obtain ⟨u0, v0, n1, n2, n3⟩ := hk'
      exact ⟨_, _, rfl, rfl, n1, gives_ok h1 g2 (.bl _)⟩
  | _ => exact g2.elim
theorem pe_kdD {x : Str} {ks vs : List D} {w : Loc → Sto → Res D} {p : Pos} (neg : Bool) (hg : Gl X x) (hdb : (x == ("__debug__" : Str)) = false) (kd : KD X x ks vs) (he : PE X e (up X.K X.mg z W w)) :
    PE X (.Compare e [if neg = true then .NotIn else .In] [.Name x p] pos) (up X.K X.mg z W (kdF ks vs neg w)) := by
  obtain ⟨d, es, n, hm, D, hk⟩ := kd.ex
  exact (pe_cmpR (op_kd D neg) he (pe_glob (v := .ref d) hg hm rfl hdb) (by cases neg <;> rfl)).imp' fun σ H Q h => kd_up hk h
theorem pt_kdD {x : Str} {ks vs : List D} {w : Loc → Sto → Res D} {p : Pos} (neg : Bool) (hg : Gl X x) (hdb : (x == ("__debug__" : Str)) = false) (kd : KD X x ks vs) (he : PE X e (up X.K X.mg z W w)) :
    PT X (.Compare e [if neg = true then .NotIn else .In] [.Name x p] pos) (upT X.K X.mg z W (kdF ks vs neg w)) := by
  obtain ⟨d, es, n, hm, D, hk⟩ := kd.ex
  exact (pt_cmpR (op_kd D neg) he (pe_glob (v := .ref d) hg hm rfl hdb) (by cases neg <;> rfl)).imp' fun σ H Q h => kd_up hk (upT_up h)

/-! ### methods -/
/-- a live list of the store is written anew -/
theorem Wld.loc {K : PySem.W.Frag} {B : Addr → Prop} (Wd : Wld K φ S H B) {l : Nat} {xs : List D} (e : S[l]? = some (.lst xs)) : ∃ a vs, φ[l]? = some a ∧ H a = some (.lst vs) ∧ Reps K φ (LB φ S B) H xs vs := by
  obtain ⟨a, ho, h1, h2, h3⟩ := Wd.ob l _ e (by simp)
  cases h3 with
  | lst r => exact ⟨a, _, h1, h2, r⟩
theorem live_set {l : Nat} {o o' : Ob} (e : S[l]? = some o) (n : o ≠ .dead) (n' : o' ≠ .dead) (a : Addr) : live φ (S.set l o') a ↔ live φ S a := by
  have hl : l < S.length := (List.getElem?_eq_some_iff.mp e).1
  constructor
  · rintro ⟨k, u, h1, h2, h3⟩
    by_cases hk : l = k
    · subst hk; exact ⟨l, o, h1, e, n⟩
    · rw [List.getElem?_set_ne hk] at h2; exact ⟨k, u, h1, h2, h3⟩
  · rintro ⟨k, u, h1, h2, h3⟩
    by_cases hk : l = k
    · subst hk; exact ⟨l, o', h1, by rw [List.getElem?_set_self hl], n'⟩
    · exact ⟨k, u, h1, by rw [List.getElem?_set_ne hk]; exact h2, h3⟩
theorem Stp.put {l : Nat} {a : Addr} {o o' : Ob} {ho ho' : HO} (e : S[l]? = some o) (n : o ≠ .dead) (n' : o' ≠ .dead) (ha : φ[l]? = some a) (hH : H a = some ho) : Stp φ S H φ (S.set l o') (L2.upd H a ho') := by
  refine ⟨fun _ _ h => h, fun b u hb nb => ?_, fun b u hb => ?_⟩
  · have ne : b ≠ a := fun h => nb (h ▸ ⟨l, o, ha, e, n⟩)
    exact ⟨by rw [upd_ne ne]; exact hb, fun h => nb ((live_set e n n' b).mp h)⟩
  · by_cases h : b = a
    · exact ⟨ho', by rw [h, upd_same]⟩
    · exact ⟨u, by rw [upd_ne h]; exact hb⟩
theorem Wld.put {K : PySem.W.Frag} {B : Addr → Prop} (Wd : Wld K φ S H B) {l : Nat} {a : Addr} {o o' : Ob} {ho ho' : HO} (e : S[l]? = some o) (n : o ≠ .dead) (n' : o' ≠ .dead) (ha : φ[l]? = some a) (hH : H a = some ho) (r : RepO K φ (LB φ S B) H o' ho') : Wld K φ (S.set l o') (L2.upd H a ho') B := by
  have st : Stp φ S H φ (S.set l o') (L2.upd H a ho') := Stp.put e n n' ha hH
  have hl : l < S.length := (List.getElem?_eq_some_iff.mp e).1
  refine ⟨by rw [List.length_set]; exact Wd.len, Wd.nd, fun k u ek nk => ?_, fun b hb => ?_, Wd.bn, fun b hb => ?_⟩
  · by_cases hk : l = k
    · subst hk
      rw [List.getElem?_set_self hl] at ek
      cases ek
      exact ⟨a, ho', ha, upd_same, r.step st.keeps⟩
    · rw [List.getElem?_set_ne hk] at ek
      obtain ⟨b, hu, h1, h2, h3⟩ := Wd.ob k u ek nk
      have ne : b ≠ a := fun h => by
        subst h
        exact hk ((List.getElem?_inj (by rw [Wd.len]; exact hl) Wd.nd).mp (ha.trans h1.symm))
      exact ⟨b, hu, h1, by rw [upd_ne ne]; exact h2, h3.step st.keeps⟩
  · obtain ⟨u, h⟩ := Wd.bt b hb
    exact st.more b u h
  · obtain ⟨u, h⟩ := Wd.ft b hb
    exact st.more b u h
def rMt (K : PySem.W.Frag) (z : W0) (m : Mt) : V → List V → Hp → VK → Prop := fun x xs H Q => ∃ φ S o ds d S', Wld K φ S H z.B ∧ Rep K φ (LB φ S z.B) H o x ∧ Reps K φ (LB φ S z.B) H ds xs ∧ mthD m o ds S = .ok d S' ∧ eOk K z φ S S' H d Q
def mtT : Mt → String
  | .append => "list" | .extend => "list" | .pop => "list" | .index => "tuple" | .join => "str" | .get1 => "dict" | .get2 => "dict" | .startswith => "str" | .endswith => "str"
def mtN : Mt → Str
  | .append => "append" | .extend => "extend" | .pop => "pop" | .index => "index" | .join => "join" | .get1 => "get" | .get2 => "get" | .startswith => "startswith" | .endswith => "endswith"
def tyD (K : PySem.W.Frag) (z : W0) (m : Mt) (x : V) (H : Hp) : Prop := ∃ φ S o, Wld K φ S H z.B ∧ Rep K φ (LB φ S z.B) H o x ∧ tyM m S o = true
theorem ty_m {m : Mt} : TyOk X (mtT m) (tyD X.K z m) := by
  intro pins σ H s x v I r ty
  obtain ⟨φ, S, o, Wd, ro, e⟩ := ty
  unfold tyM at e
  split at e
  all_goals first
    | cases e; done
    | (rename_i h
       obtain ⟨a, vs, rfl, hs, hr⟩ := ro.drf_lst Wd h
       cases r
       obtain ⟨_, its, n, _, ho⟩ := I.hok a _ hs
       exact ⟨⟨_, ho, rfl⟩, fun b eb => by cases eb; exact ⟨_, ho, rfl⟩⟩)
    | (rename_i h
       obtain ⟨a, vs, rfl, hs, hr⟩ := ro.drf_tup Wd h
       cases r
       rcases hs with ⟨ob, ⟨h1, h2⟩, n⟩ | ⟨ob, its, n, h1, h2, h3, h4, h5⟩
       · obtain ⟨e1, _, its, _, ob', e2, e3, _⟩ := (show ObjOk X.prog X.w H s.heap a (.frz ob (.tup vs)) from I.hok a _ h1)
         rw [e1] at e2; cases e2
         exact ⟨⟨ob, e1, e3⟩, fun b eb => by cases eb; exact ⟨ob, e1, h2⟩⟩
       · exact ⟨⟨ob, I.kIn a ob h1, h2⟩, fun b eb => by cases eb; exact ⟨ob, I.kIn a ob h1, h3⟩⟩)
    | (rename_i h
       rw [drf_str h] at ro
       cases ro
       obtain ⟨t, rfl⟩ := r
       exact ⟨typeIs_str s _ t, fun _ e => nomatch e⟩)
end
end Ev
/-! Ev13: each method; calls of defs. -/
namespace Ev
open PySem PySem.Spec PyProof.Rows L2

section
variable {X : Cx} {z : W0} {W : WX} {φ : List Addr} {S : Sto} {H : Hp} {σ : L2.St} {pos : Pos} {e : Expr}
theorem inv_loc {S : Sto} {o : D} {l : Nat} (h : o = .loc l) : True := trivial
theorem me_append : MtR X "list.append" (rMt X.K z .append) := by
  intro pins s σ H x xs v us Q I rx rv h
  obtain ⟨φ, S, o, ds, d, S', Wd, ro, rd, e, q⟩ := h
  cases o with
  | loc l =>
    rcases ds with _ | ⟨y, _ | ⟨_, _⟩⟩
    · cases e
    · cases e1 : S[l]? with
      | none => simp [mthD, e1] at e
      | some ob =>
        cases ob with
        | lst ys =>
          simp only [mthD, e1] at e
          split at e
          · rename_i hz
            cases e
            cases ro with
            | loc hl =>
              obtain ⟨y', rfl, ry⟩ := rd.one
              obtain ⟨a, vs, ha, hs, hr⟩ := Wd.loc e1
              rw [hl] at ha; cases ha
              refine mt_append pins s σ H _ _ v us Q I rx rv ⟨_, vs, y', rfl, rfl, hs, by rw [← hr.length, sz_eq]; exact hz, ?_⟩
              have st : Stp φ S H φ (S.set l (.lst (ys ++ [y]))) (L2.upd H _ (.lst (vs ++ [y']))) := Stp.put e1 (by simp) (by simp) hl hs
              exact q φ _ _ st (Wd.put e1 (by simp) (by simp) hl hs (.lst (hr.snoc ry))) .non
          · cases e
        | dic _ _ => simp [mthD, e1] at e
        | dead => simp [mthD, e1] at e
    · cases e
  | _ => simp [mthD] at e
theorem me_extend : MtR X "list.extend" (rMt X.K z .extend) := by
  intro pins s σ H x xs v us Q I rx rv h
  obtain ⟨φ, S, o, ds, d, S', Wd, ro, rd, e, q⟩ := h
  cases o with
  | loc l =>
    rcases ds with _ | ⟨y, _ | ⟨_, _⟩⟩
    · cases e
    · cases e1 : S[l]? with
      | none => simp [mthD, e1] at e
      | some ob =>
        cases ob with
        | lst ys =>
          cases e2 : drf S y with
          | lst zs =>
            simp only [mthD, e1, e2] at e
            split at e
            · rename_i hz
              cases e
              cases ro with
              | loc hl =>
                obtain ⟨y', rfl, ry⟩ := rd.one
                obtain ⟨a, vs, ha, hs, hr⟩ := Wd.loc e1
                rw [hl] at ha; cases ha
                obtain ⟨b, ws, rfl, hb, hr2⟩ := ry.drf_lst Wd e2
                refine mt_extend pins s σ H _ _ v us Q I rx rv ⟨_, b, vs, ws, rfl, rfl, hs, hb, by rw [← hr.length, ← hr2.length, sz_eq]; exact hz, ?_⟩
                have st : Stp φ S H φ (S.set l (.lst (ys ++ zs))) (L2.upd H _ (.lst (vs ++ ws))) := Stp.put e1 (by simp) (by simp) hl hs
                exact q φ _ _ st (Wd.put e1 (by simp) (by simp) hl hs (.lst (hr.append hr2))) .non
            · cases e
          | _ => simp [mthD, e1, e2] at e
        | dic _ _ => simp [mthD, e1] at e
        | dead => simp [mthD, e1] at e
    · cases e
  | _ => simp [mthD] at e
theorem me_pop : MtR X "list.pop" (rMt X.K z .pop) := by
  intro pins s σ H x xs v us Q I rx rv h
  obtain ⟨φ, S, o, ds, d, S', Wd, ro, rd, e, q⟩ := h
  cases o with
  | loc l =>
    rcases ds with _ | ⟨y, ds⟩
    · cases e1 : S[l]? with
      | none => simp [mthD, e1] at e
      | some ob =>
        cases ob with
        | lst ys =>
          cases e2 : ys[ys.length - 1]? with
          | none => simp [mthD, e1, e2] at e
          | some y =>
            simp only [mthD, e1, e2] at e
            cases e
            cases ro with
            | loc hl =>
              cases rd
              obtain ⟨a, vs, ha, hs, hr⟩ := Wd.loc e1
              rw [hl] at ha; cases ha
              obtain ⟨y', hy', ry⟩ := hr.get e2
              refine mt_pop pins s σ H _ _ v us Q I rx rv ⟨_, vs, y', rfl, rfl, hs, by rw [← hr.length]; exact hy', ?_⟩
              have st : Stp φ S H φ (S.set l (.lst ys.dropLast)) (L2.upd H _ (.lst vs.dropLast)) := Stp.put e1 (by simp) (by simp) hl hs
              exact q φ _ _ st (Wd.put e1 (by simp) (by simp) hl hs (.lst hr.dropLast)) (ry.step st)
        | dic _ _ => simp [mthD, e1] at e
        | dead => simp [mthD, e1] at e
    · cases e
  | _ => simp [mthD] at e
theorem sts_get {is : List (List Nat)} {j : Nat} {t : List Nat} (h : is[j]? = some t) : (is.map fun s => (⟨s.toArray⟩ : Str))[j]? = some ⟨t.toArray⟩ := by
  rw [List.getElem?_map, h]; rfl
theorem str_inj {a b : List Nat} (h : (⟨a.toArray⟩ : Str) = ⟨b.toArray⟩) : a = b := by
  have h1 := congrArg (fun s : Str => s.cps.toList) h
  simpa using h1
theorem me_index : MtR X "tuple.index" (rMt X.K z .index) := by
  intro pins s σ H x xs v us Q I rx rv h
  obtain ⟨φ, S, o, ds, d, S', Wd, ro, rd, e, q⟩ := h
  cases o with
  | tup ys =>
    rcases ds with _ | ⟨y, _ | ⟨_, _⟩⟩
    · cases e
    · cases y with
      | str t =>
        cases e1 : ys.mapM asSt with
        | none => simp [mthD, e1] at e
        | some zs =>
          cases e2 : zs.findIdx? fun x => decide (x = t) with
          | none => simp [mthD, e1, e2] at e
          | some j =>
            simp only [mthD, e1, e2] at e
            cases e
            obtain ⟨y', rfl, ry⟩ := rd.one
            cases ry
            cases ro with
            | tup hf hr =>
              have hv := mapM_sts e1 hr
              subst hv
              rw [List.findIdx?_eq_some_iff_getElem] at e2
              obtain ⟨hj, h1, h2⟩ := e2
              refine mt_tup_index pins s σ H _ _ v us Q I rx rv ⟨_, _, _, j, rfl, rfl, hf.sq, ?_, fun m hm hc => ?_, q φ H _ Stp.refl Wd (.int _)⟩
              · rw [← of_decide_eq_true h1]; exact sts_get (List.getElem?_eq_getElem hj)
              · have hml : m < zs.length := Nat.lt_trans hm hj
                rw [sts_get (List.getElem?_eq_getElem hml)] at hc
                have h3 := str_inj (Option.some.inj hc)
                exact h2 m hm (decide_eq_true h3)
      | _ => simp [mthD] at e
    · cases y <;> cases e
  | _ => simp [mthD] at e
theorem join_codes (s : List Nat) (ts : List (List Nat)) : Txt.join ⟨s.toArray⟩ (ts.map fun s => (⟨s.toArray⟩ : Str)) = ⟨(TL.joinL s ts).toArray⟩ := by
  rw [TL.join_eq]
  have h := TL.tl_join ⟨s.toArray⟩ (ts.map fun s => (⟨s.toArray⟩ : Str))
  have e : (ts.map fun s => (⟨s.toArray⟩ : Str)).map TL.tl = ts := by
    rw [List.map_map]
    have : (TL.tl ∘ fun s : List Nat => (⟨s.toArray⟩ : Str)) = id := by funext a; simp [TL.tl]
    rw [this, List.map_id]
  rw [e] at h
  have h2 : (Str.join ⟨s.toArray⟩ (ts.map fun s => (⟨s.toArray⟩ : Str))).cps.toList = TL.joinL s ts := by simpa [TL.tl] using h
  cases h3 : Str.join ⟨s.toArray⟩ (ts.map fun s => (⟨s.toArray⟩ : Str)) with
  | mk c => rw [h3] at h2; rw [← h2]
theorem me_join : MtR X "str.join" (rMt X.K z .join) := by
  intro pins s σ H x xs v us Q I rx rv h
  obtain ⟨φ, S, o, ds, d, S', Wd, ro, rd, e, q⟩ := h
  cases o with
  | str t =>
    rcases ds with _ | ⟨y, _ | ⟨_, _⟩⟩
    · cases e
    · cases e0 : seqD S y with
      | none => simp [mthD, e0] at e
      | some ys =>
        cases e1 : ys.mapM asSt with
        | none => simp [mthD, e0, e1] at e
        | some zs =>
          simp only [mthD, e0, e1] at e
          split at e
          · rename_i hz
            cases e
            obtain ⟨y', rfl, ry⟩ := rd.one
            cases ro
            obtain ⟨a, vs, rfl, hs, hr⟩ := ry.seq Wd e0
            have hv := mapM_sts e1 hr
            subst hv
            refine mt_join pins s σ H _ _ v us Q I rx rv ⟨_, a, _, rfl, rfl, hs, ?_, ?_⟩
            · rw [List.map_map, List.length_map]
              have : (zs.map ((fun x : Str => x.length) ∘ fun s => (⟨s.toArray⟩ : Str))) = zs.map List.length := by
                apply List.map_congr_left; intro a _; simp [Str.length]
              rw [this]
              simpa [Str.length] using hz
            · rw [join_codes]
              exact q φ H _ Stp.refl Wd (.str _)
          · cases e
    · cases e
  | _ => simp [mthD] at e
theorem me_all : ∀ m : Mt, mtT m ≠ "dict" → m ≠ .startswith → m ≠ .endswith → MtR X (match m with | .append => "list.append" | .extend => "list.extend" | .pop => "list.pop" | .index => "tuple.index" | .join => "str.join" | _ => "") (rMt X.K z m)
  | .append, _, _, _ => me_append | .extend, _, _, _ => me_extend | .pop, _, _, _ => me_pop | .index, _, _, _ => me_index | .join, _, _, _ => me_join
  | .get1, h, _, _ => absurd rfl h | .get2, h, _, _ => absurd rfl h | .startswith, _, h, _ => absurd rfl h | .endswith, _, _, h => absurd rfl h
theorem mtd_up {m : Mt} {o : Expr} {t : Loc → Sto → Res D} {ws : Loc → Sto → Res (List D)} {Q : VK} (h : up X.K X.mg z W (fun ls S => (t ls S).bd fun d S1 => if tyM m S1 d = true then (ws ls S1).bd fun ds S2 => mthD m d ds S2 else .bad) σ H Q) :
    tMG (tyD X.K z m) (rMt X.K z m) (up X.K X.mg z W t) (upA X.K X.mg z W ws) σ H Q := by
  obtain ⟨φ, S, ls, h, g⟩ := h
  refine up_seq (G := fun φ S H r => gives X.K X.mg z W σ φ S H Q r) h g (fun _ _ _ h => h) (fun _ _ _ _ _ _ h => h) fun d S1 φ1 H1 v _ st1 h1 r1 g1 => ?_
  have g2 := gives_step st1 g1
  by_cases ht : tyM m S1 d = true
  · rw [if_pos ht] at g2
    refine ⟨⟨φ1, S1, d, h1.w, r1, ht⟩, ?_⟩
    refine upA_seq (G := fun φ S H r => gives X.K X.mg z W σ φ S H Q r) h1 g2 (fun _ _ _ h => h) (fun _ _ _ _ _ _ h => h) fun ds S2 φ2 H2 vs _ st2 h2 r2 g3 => ?_
    have g4 := gives_step st2 g3
    cases e : mthD m d ds S2 with
    | bad => rw [e] at g4; exact g4.elim
    | exc c fs S' =>
      exfalso
      clear g3 g4 g2 g1
      cases m <;> simp only [mthD] at e
      all_goals (repeat' split at e) <;> cases e
    | ok d' S' =>
      rw [e] at g4
      exact ⟨φ2, S2, d, ds, d', S', h2.w, r1.step st2, r2, e, g4⟩
  · rw [if_neg ht] at g2; exact g2.elim
theorem mtd_up0 {m : Mt} {o : Expr} {t : Loc → Sto → Res D} {Q : VK} (h : up X.K X.mg z W (fun ls S => (t ls S).bd fun d S1 => if tyM m S1 d = true then (Res.ok [] S1 : Res (List D)).bd fun ds S2 => mthD m d ds S2 else .bad) σ H Q) :
    tMG0 (tyD X.K z m) (rMt X.K z m) (up X.K X.mg z W t) σ H Q := by
  obtain ⟨φ, S, ls, h, g⟩ := h
  refine up_seq (G := fun φ S H r => gives X.K X.mg z W σ φ S H Q r) h g (fun _ _ _ h => h) (fun _ _ _ _ _ _ h => h) fun d S1 φ1 H1 v _ st1 h1 r1 g1 => ?_
  have g2 := gives_step st1 g1
  by_cases ht : tyM m S1 d = true
  · rw [if_pos ht, Res.bd_ok] at g2
    refine ⟨⟨φ1, S1, d, h1.w, r1, ht⟩, ?_⟩
    cases e : mthD m d [] S1 with
    | bad => rw [e] at g2; exact g2.elim
    | exc c fs S' =>
      exfalso
      clear g1 g2
      cases m <;> simp only [mthD] at e
      all_goals (repeat' split at e) <;> cases e
    | ok d' S' =>
      rw [e] at g2
      exact ⟨φ1, S1, d, [], d', S', h1.w, r1, .nil, e, g2⟩
  · rw [if_neg ht] at g2; exact g2.elim
def mtK : Mt → Bool
  | .append => true | .extend => true | .pop => true | .index => true | .join => true
  | _ => false
theorem pe_mthD {m : Mt} {o a : Expr} {es : List Expr} {t : Loc → Sto → Res D} {ws : Loc → Sto → Res (List D)} {apos : Pos} (hm : mtK m = true) (ho : PE X o (up X.K X.mg z W t)) (ha : PA X (a :: es) (upA X.K X.mg z W ws))
    (hbase : attributeBase o (mtN m) X.env (eval o X.env) = eval o X.env)
    (hfew : ((backTo pos (starEach (a :: es) X.env)).all (fun x => !x.1) && (backToKw pos (keywordEach [] X.env)).all (fun x => x.1.isSome)
      && decide ((a :: es).length + ([] : List Keyword).length + (if ([] : List Keyword).isEmpty then 0 else 1) < 30)) = true)
    (hline : (apos.endLine == pos.line) = true) (hs : starEach (a :: es) X.env = (false, eval a X.env) :: starEach es X.env) (hplain : (backTo pos (starEach es X.env)).any (·.1) = false) :
    PE X (.Call (.Attribute o (mtN m) apos) (a :: es) [] pos) (up X.K X.mg z W fun ls S => (t ls S).bd fun d S1 => if tyM m S1 d = true then (ws ls S1).bd fun ds S2 => mthD m d ds S2 else .bad) := by
  refine L2.PE.imp' ?_ fun σ H Q h => mtd_up (o := o) h
  cases m with
  | append => exact pe_mG ty_m PySem.F.plainAttrs_list PySem.F.slot_list_append PySem.F.type_list_append me_append ho ha hbase hfew hline hs hplain
  | extend => exact pe_mG ty_m PySem.F.plainAttrs_list PySem.F.slot_list_extend PySem.F.type_list_extend me_extend ho ha hbase hfew hline hs hplain
  | pop => exact pe_mG ty_m PySem.F.plainAttrs_list PySem.F.slot_list_pop PySem.F.type_list_pop me_pop ho ha hbase hfew hline hs hplain
  | index => exact pe_mG ty_m PySem.F.plainAttrs_tuple PySem.F.slot_tuple_index PySem.F.type_tuple_index me_index ho ha hbase hfew hline hs hplain
  | join => exact pe_mG ty_m PySem.F.plainAttrs_str PySem.F.slot_str_join PySem.F.type_str_join me_join ho ha hbase hfew hline hs hplain
  | _ => cases hm
theorem pe_popD {o : Expr} {t : Loc → Sto → Res D} {apos : Pos} (ho : PE X o (up X.K X.mg z W t))
    (hbase : attributeBase o (mtN .pop) X.env (eval o X.env) = eval o X.env) (hline : (apos.endLine == pos.line) = true) :
    PE X (.Call (.Attribute o (mtN .pop) apos) [] [] pos) (up X.K X.mg z W fun ls S => (t ls S).bd fun d S1 => if tyM .pop S1 d = true then (Res.ok [] S1 : Res (List D)).bd fun ds S2 => mthD .pop d ds S2 else .bad) :=
  (pe_mG0 (ty_m (m := .pop)) PySem.F.plainAttrs_list PySem.F.slot_list_pop PySem.F.type_list_pop me_pop ho hbase hline).imp' fun σ H Q h => mtd_up0 (o := o) h

/-! ### calls of defs -/
structure FD (X : Cx) (k : Nat) (x : Str) (cal : List D → Sto → Res D) : Prop where
  ex : ∃ f fd ps, X.mg x = some (.ref f) ∧ PySem.W.keepIn X.K (.ref f) = true ∧ Binds X.K fd ps [] ∧ FnOk X.prog X.w X.K X.mg X.base (L2.CX X.prog X.w) k f fd ps (spD X.K X.mg cal)
theorem cal_up {cal : List D → Sto → Res D} {ws : Loc → Sto → Res (List D)} {Q : VK} (h : up X.K X.mg z W (fun ls S => (ws ls S).bd fun ds S1 => cal ds S1) σ H Q) : tCallS (spD X.K X.mg cal) (WE W) (upA X.K X.mg z W ws) σ H Q := by
  obtain ⟨φ, S, ls, h, g⟩ := h
  refine upA_seq (G := fun φ S H r => gives X.K X.mg z W σ φ S H Q r) h g (fun _ _ _ h => h) (fun _ _ _ _ _ _ h => h) fun ds S1 φ1 H1 vs _ st1 h1 r1 g1 => ?_
  have g2 := gives_step st1 g1
  refine ⟨φ1, S1, z.B, ds, h1.w, r1, ?_⟩
  cases e : cal ds S1 with
  | bad => rw [e] at g2; exact g2
  | ok d S' => rw [e] at g2; exact g2
  | exc c fs S' =>
    rw [e] at g2
    exact fun φ' H' cls dd st wd ex => g2 φ' H' cls dd (h1.st.trans st) wd ex
theorem pe_calD {k : Nat} {x : Str} {cal : List D → Sto → Res D} {e : Expr} {es : List Expr} {ws : Loc → Sto → Res (List D)} {p : Pos} (F : FD X k x cal) (tk : Takes X W) (hr : Room k X.A) (hg : Gl X x) (hdb : (x == ("__debug__" : Str)) = false) (ha : PA X (e :: es) (upA X.K X.mg z W ws))
    (he : starEach (e :: es) X.env = (false, eval e X.env) :: starEach es X.env) (hpl : (backTo pos (starEach es X.env)).any (·.1) = false) :
    PE X (.Call (.Name x p) (e :: es) [] pos) (up X.K X.mg z W fun ls S => (ws ls S).bd fun ds S1 => cal ds S1) := by
  obtain ⟨f, fd, ps, hm, hk, hb, F⟩ := F.ex
  exact (pe_callS F hr hg hm hk hb (fun σ => passAt tk σ) ha hdb he hpl).imp' fun σ H Q h => cal_up h
/-- a call by keywords alone -/
structure FK (X : Cx) (k : Nat) (x : Str) (ks : List Str) (ix : List Nat) (cal : List D → Sto → Res D) : Prop where
  ex : ∃ f fd ps, X.mg x = some (.ref f) ∧ PySem.W.keepIn X.K (.ref f) = true ∧ FnOk X.prog X.w X.K X.mg X.base (L2.CX X.prog X.w) k f fd ps (spD X.K X.mg cal) ∧
    ∀ (s : Shared) (ws rs : List Value), reo ws ix = some rs → ws.length = ks.length → BindsTo s fd ⟨[], ks.zip ws⟩ (ps.zip rs)
theorem reo_vals {vs : List V} {us : List Value} (h : Vals vs us) : ∀ {ix : List Nat} {ws : List V}, reo vs ix = some ws → ∃ rs, reo us ix = some rs ∧ Vals ws rs
  | [], _, e => by cases e; exact ⟨[], rfl, .nil⟩
  | i :: ix, ws, e => by
    unfold reo at e
    split at e
    · rename_i w r h1 h2
      cases e
      obtain ⟨u, hu, ru⟩ := h.get h1
      obtain ⟨rs, h3, h4⟩ := reo_vals h h2
      exact ⟨u :: rs, by rw [reo, hu, h3], .cons ru h4⟩
    · cases e
theorem reo_reps {K : PySem.W.Frag} {L : Addr → Prop} {ds : List D} {vs : List V} (h : Reps K φ L H ds vs) : ∀ {ix : List Nat} {es : List D}, reo ds ix = some es → ∃ ws, reo vs ix = some ws ∧ Reps K φ L H es ws
  | [], _, e => by cases e; exact ⟨[], rfl, .nil⟩
  | i :: ix, ws, e => by
    unfold reo at e
    split at e
    · rename_i w r h1 h2
      cases e
      obtain ⟨u, hu, ru⟩ := h.get h1
      obtain ⟨rs, h3, h4⟩ := reo_reps h h2
      exact ⟨u :: rs, by rw [reo, hu, h3], .cons ru h4⟩
    · cases e
def tCallKS (ix : List Nat) (n : Nat) (sp : Sp) (E : L2.St → XK) (t : TA) : TE := fun σ H Q => t σ H fun vs H1 => vs.length = n ∧ ∃ ws, reo vs ix = some ws ∧ sp ws H1 Q (E σ)
theorem pe_callKS {k : Nat} {f : Addr} {fd : FuncData} {ps ks : List Str} {ix : List Nat} {sp : Sp} {E : L2.St → XK} {x : Str} {p : Pos} {kws : List Keyword} {t : TA} (F : FnOk X.prog X.w X.K X.mg X.base (L2.CX X.prog X.w) k f fd ps sp) (hr : Room k X.A) (hg : Gl X x) (hm : X.mg x = some (.ref f)) (hk : PySem.W.keepIn X.K (.ref f) = true)
    (hb : ∀ (s : Shared) (ws rs : List Value), reo ws ix = some rs → ws.length = ks.length → BindsTo s fd ⟨[], ks.zip ws⟩ (ps.zip rs)) (hx : ∀ σ, PassesAt (L2.CX X.prog X.w) X σ (E σ))
    (hkw : PK X kws t) (hall : (backToKw pos (keywordEach kws X.env)).all (·.1.isSome) = true) (hks : (backToKw pos (keywordEach kws X.env)).filterMap (·.1) = ks)
    (hdb : (x == ("__debug__" : Str)) = false) (hpl : ((backTo pos (starEach [] X.env)).any (·.1) || (backToKw pos (keywordEach kws X.env)).any (·.1.isNone)) = false) :
    PE X (.Call (.Name x p) [] kws pos) (tCallKS ix ks.length sp E t) := by
  refine ⟨fun pins s σ H Q I h => ?_⟩
  refine wpAny_Call_Name_kw (ld_glob I hg hm ?_ hdb)
  refine PySem.W.callWith_KW0 (h₀ := X.base) I.ok.mod.kin hk hall ?_ hpl
  refine thn (hkw.run pos pins s σ H _ I h) fun us s1 ⟨vs, H1, I1, rv, hl, ws, hw, q⟩ => ⟨I1.kIn, ?_⟩
  rw [hks]
  obtain ⟨rs, hrs, rr⟩ := reo_vals rv hw
  refine wpAny_call (codeAny_mono (F.run X.A X.stack s1 H1 ⟨[], ks.zip us⟩ rs ws Q (E σ) hr I1.env0 (hb s1 us rs hrs (by rw [← rv.length]; exact hl)) rr q) fun r s' hq => ?_)
  cases r with
  | error e => exact hx σ pins H1 s1 e s' I1 hq
  | ok fl =>
    cases fl with
    | ret u => exact I1.after hq
    | next => exact False.elim hq
    | brk => exact False.elim hq
    | cont => exact False.elim hq
theorem pe_calkD {k : Nat} {x : Str} {ks : List Str} {ix : List Nat} {cal : List D → Sto → Res D} {ws : Loc → Sto → Res (List D)} {p : Pos} {kws : List Keyword} (F : FK X k x ks ix cal) (tk : Takes X W) (hr : Room k X.A) (hg : Gl X x) (hdb : (x == ("__debug__" : Str)) = false)
    (hkw : PK X kws (upA X.K X.mg z W ws)) (hlen : ∀ ls S ds S', ws ls S = .ok ds S' → ds.length = ks.length) (hall : (backToKw pos (keywordEach kws X.env)).all (·.1.isSome) = true) (hks : (backToKw pos (keywordEach kws X.env)).filterMap (·.1) = ks)
    (hpl : ((backTo pos (starEach [] X.env)).any (·.1) || (backToKw pos (keywordEach kws X.env)).any (·.1.isNone)) = false) :
    PE X (.Call (.Name x p) [] kws pos) (up X.K X.mg z W fun ls S => (ws ls S).bd fun ds S1 => match reo ds ix with
      | some as => cal as S1
      | none => .bad) := by
  obtain ⟨f, fd, ps, hm, hk, F, hb⟩ := F.ex
  refine (pe_callKS F hr hg hm hk hb (fun σ => passAt tk σ) hkw hall hks hdb hpl).imp' fun σ H Q h => ?_
  obtain ⟨φ, S, ls, h, g⟩ := h
  refine upA_seq (G := fun φ S H r => gives X.K X.mg z W σ φ S H Q r) h g (fun _ _ _ h => h) (fun _ _ _ _ _ _ h => h) fun ds S1 φ1 H1 vs hds st1 h1 r1 g1 => ?_
  have g2 := gives_step st1 g1
  refine ⟨by rw [← r1.length]; exact hlen _ _ _ _ hds, ?_⟩
  cases er : reo ds ix with
  | none => rw [er] at g2; exact g2.elim
  | some es =>
    rw [er] at g2
    dsimp only at g2
    obtain ⟨us, hu, ru⟩ := reo_reps r1 er
    refine ⟨us, hu, φ1, S1, z.B, es, h1.w, ru, ?_⟩
    cases e : cal es S1 with
    | bad => rw [e] at g2; exact g2
    | ok d S' => rw [e] at g2; exact g2
    | exc c fs S' =>
      rw [e] at g2
      exact fun φ' H' cls dd st wd ex => g2 φ' H' cls dd (h1.st.trans st) wd ex
theorem pk_nilD : PK X [] (upA X.K X.mg z W fun _ S => .ok [] S) := ⟨fun pos pins s σ H Q I h => (pk_nil (X := X)).run pos pins s σ H Q I (by
  obtain ⟨φ, S, ls, h, g⟩ := h
  exact g φ H [] Stp.refl h.w .nil)⟩
theorem pk_consD {e : Expr} {kws : List Keyword} {nm : Option Str} {kp : Pos} {w : Loc → Sto → Res D} {ws : Loc → Sto → Res (List D)} (ha : PE X e (up X.K X.mg z W w)) (hr : PK X kws (upA X.K X.mg z W ws)) :
    PK X (⟨nm, e, kp⟩ :: kws) (upA X.K X.mg z W fun ls S => (w ls S).bd fun d S1 => (ws ls S1).bd fun ds S2 => .ok (d :: ds) S2) := ⟨fun pos pins s σ H Q I h => (pk_cons ha hr).run pos pins s σ H Q I (by
  obtain ⟨φ, S, ls, h, g⟩ := h
  refine up_seq (G := fun φ S H (r : Res (List D)) => match r with
    | .ok ds S' => ∀ φ' H' vs, Stp φ S H φ' S' H' → Wld X.K φ' S' H' z.B → Reps X.K φ' (LB φ' S' z.B) H' ds vs → Q vs H'
    | .exc c fs S' => eEx X.K X.mg z W σ S' c fs
    | .bad => False) h g (fun _ _ _ h => h) (fun _ _ _ _ _ _ h => h) fun d S1 φ1 H1 v _ st1 h1 r1 g1 => ?_
  refine ⟨φ1, S1, ls, h1, ?_⟩
  cases e2 : ws ls S1 with
  | bad => rw [e2] at g1; exact g1
  | exc c fs S' => rw [e2] at g1; exact g1
  | ok ds S2 =>
    rw [e2] at g1
    intro φ2 H2 vs st2 wd r2
    exact g1 φ2 H2 (v :: vs) (st1.trans st2) wd (.cons (r1.step st2) r2))⟩
end
end Ev
/-! Ev14: targets, what is walked, list comprehensions. -/
namespace Ev
open PySem PySem.Spec PyProof.Rows L2

/-! ### slots -/
theorem wipe_get (σ : L2.St) (i : Nat) : ∀ vs : List Nat, (wipe σ vs)[i]? = if i ∈ vs then (σ[i]?).map (fun _ => none) else σ[i]?
  | [] => by simp [wipe]
  | v :: vs => by
    unfold wipe
    have ih := wipe_get σ i vs
    by_cases hv : v = i
    · subst hv
      rw [if_pos (by simp)]
      by_cases hl : v < (wipe σ vs).length
      · rw [List.getElem?_set_self hl]
        have : v < σ.length := by rwa [wipe_length] at hl
        rw [List.getElem?_eq_getElem this]; rfl
      · rw [List.getElem?_eq_none (by simpa using hl)]
        have : ¬ v < σ.length := by rwa [wipe_length] at hl
        rw [List.getElem?_eq_none (by omega)]; rfl
    · rw [List.getElem?_set_ne hv, ih]
      by_cases hm : i ∈ vs
      · rw [if_pos hm, if_pos (by simp [hm])]
      · rw [if_neg hm, if_neg (by simp only [List.mem_cons, not_or]; exact ⟨fun e => hv e.symm, hm⟩)]
theorem wipe_idem (σ : L2.St) (vs : List Nat) : wipe (wipe σ vs) vs = wipe σ vs := by
  apply List.ext_getElem?
  intro i
  rw [wipe_get, wipe_get]
  by_cases h : i ∈ vs
  · rw [if_pos h, if_pos h, Option.map_map]; rfl
  · rw [if_neg h, if_neg h]
theorem wipe_set (σ : L2.St) {i : Nat} {vs : List Nat} (h : i ∈ vs) (o : Option V) : wipe (σ.set i o) vs = wipe σ vs := by
  apply List.ext_getElem?
  intro j
  rw [wipe_get, wipe_get]
  by_cases hj : i = j
  · subst hj
    rw [if_pos h, if_pos h]
    by_cases hl : i < σ.length
    · rw [List.getElem?_set_self hl, List.getElem?_eq_getElem hl]; rfl
    · rw [List.getElem?_eq_none (by simpa using hl), List.getElem?_eq_none (by omega)]
  · rw [List.getElem?_set_ne hj]

section
variable {X : Cx} {z : W0} {W : WX} {φ : List Addr} {S : Sto} {H : Hp} {σ : L2.St} {pos : Pos} {e : Expr}
theorem Here.wipe {K : PySem.W.Frag} {ls : Loc} (h : Here K z φ S ls σ H) : ∀ vs : List Nat, Here K z φ S (wipeL ls vs) (L2.wipe σ vs) H
  | [] => h
  | v :: vs => (Here.wipe h vs).unset

/-! ### targets -/
mutual
def tgIx : Tg → List Nat
  | .one i => [i]
  | .tup ts => tgsIx ts
def tgsIx : Tgs → List Nat
  | .nil => []
  | .cons t ts => tgIx t ++ tgsIx ts
end
def upG (K : PySem.W.Frag) (z : W0) (is : List Nat) (f : D → Loc → Option Loc) : TG := fun v σ H Q => ∃ φ S ls d ls', Here K z φ S ls σ H ∧ Rep K φ (LB φ S z.B) H d v ∧ f d ls = some ls' ∧
  ∀ σ', Here K z φ S ls' σ' H → (∀ vs, (∀ i ∈ is, i ∈ vs) → L2.wipe σ' vs = L2.wipe σ vs) → Q σ' H
def upGs (K : PySem.W.Frag) (z : W0) (is : List Nat) (f : List D → Loc → Option Loc) : TGs := fun us σ H Q => ∃ φ S ls ds ls', Here K z φ S ls σ H ∧ Reps K φ (LB φ S z.B) H ds us ∧ f ds ls = some ls' ∧
  ∀ σ', Here K z φ S ls' σ' H → (∀ vs, (∀ i ∈ is, i ∈ vs) → L2.wipe σ' vs = L2.wipe σ vs) → Q σ' H
theorem PG.imp' {tg : Expr} {t t' : TG} (h : PG X tg t) (i : ∀ v σ H Q, t' v σ H Q → t v σ H Q) : PG X tg t' := ⟨fun pins s σ H v u Q I r q => h.run pins s σ H v u Q I r (i _ _ _ _ q)⟩
theorem PGs.imp' {tg : List Expr} {t t' : TGs} (h : PGs X tg t) (i : ∀ v σ H Q, t' v σ H Q → t v σ H Q) : PGs X tg t' := ⟨fun pins s σ H v u Q I r q => h.run pins s σ H v u Q I r (i _ _ _ _ q)⟩
theorem pg_nameD {i : Nat} {x : Str} (hN : X.N.Nodup) (hi : X.N[i]? = some x) (hx : L2.Loc X.env.scope x) (hf : X.fn x = true ∨ X.env.scope.names.lookup x = some .local) : PG X (.Name x pos) (upG X.K z [i] fun d ls => if i < ls.length then some (ls.set i (some d)) else none) :=
  PG.imp' (pg_name hN hi hx hf) fun v σ H Q h => by
    obtain ⟨φ, S, ls, d, ls', h, r, e, q⟩ := h
    dsimp only at e
    split at e
    · rename_i hl
      cases e
      exact q _ (h.set hl r) fun vs hv => wipe_set σ (hv i (by simp)) _
    · cases e
theorem pgs_nilD : PGs X [] (upGs X.K z [] fun ds ls => match ds with
    | [] => some ls
    | _ => none) := PGs.imp' pgs_nil fun v σ H Q h => by
  obtain ⟨φ, S, ls, ds, ls', h, r, e, q⟩ := h
  cases ds with
  | nil => cases r; cases e; exact ⟨rfl, q σ h fun _ _ => rfl⟩
  | cons _ _ => cases e
theorem pgs_consD {t : Expr} {ts : List Expr} {is js : List Nat} {f : D → Loc → Option Loc} {g : List D → Loc → Option Loc} (h1 : PG X t (upG X.K z is f)) (h2 : PGs X ts (upGs X.K z js g))
    (hs : (assignEach (t :: ts) X.env).map (·.2) = assign t X.env :: (assignEach ts X.env).map (·.2)) : PGs X (t :: ts) (upGs X.K z (is ++ js) fun ds ls => match ds with
      | d :: ds => (f d ls).bind fun ls' => g ds ls'
      | [] => none) := PGs.imp' (pgs_cons h1 h2 hs) fun v σ H Q h => by
  obtain ⟨φ, S, ls, ds, ls', h, r, e, q⟩ := h
  cases ds with
  | nil => cases e
  | cons d ds =>
    cases r with
    | cons r1 r2 =>
      dsimp only at e
      obtain ⟨l2, e1, e2⟩ := Option.bind_eq_some_iff.mp e
      refine ⟨_, _, rfl, φ, S, ls, d, l2, h, r1, e1, fun σ1 h1 w1 => ⟨φ, S, l2, ds, ls', h1, r2, e2, fun σ2 h2 w2 => q σ2 h2 fun vs hv => ?_⟩⟩
      rw [w2 vs fun i hi => hv i (List.mem_append_right _ hi), w1 vs fun i hi => hv i (List.mem_append_left _ hi)]
def tsN : Tgs → Nat
  | .nil => 0
  | .cons _ ts => tsN ts + 1
theorem asgs_len : ∀ {ts : Tgs} {ds : List D} {ls ls' : Loc}, asgs ts ds ls = some ls' → ds.length = tsN ts
  | .nil, [], _, _, _ => rfl
  | .nil, _ :: _, _, _, e => by simp [asgs] at e
  | .cons _ _, [], _, _, e => by simp [asgs] at e
  | .cons t ts, d :: ds, ls, ls', e => by
    rw [asgs] at e
    obtain ⟨l2, e1, e2⟩ := Option.bind_eq_some_iff.mp e
    rw [List.length_cons, tsN, asgs_len e2]
theorem pg_tupD {es : List Expr} {k n : Nat} {is : List Nat} {g : List D → Loc → Option Loc} (hc : X.calm = true) (h : PGs X es (upGs X.K z is g)) (hg : ∀ ds ls ls', g ds ls = some ls' → ds.length = n)
    (hn : (assignEach es X.env).length = n) (hst : (assignEach es X.env).findIdx? (·.1) = none) : PG X (.Tuple es k pos) (upG X.K z is fun d ls => match d with
      | .tup xs => g xs ls
      | _ => none) := PG.imp' (pg_tup hc h hn hst) fun v σ H Q h => by
  obtain ⟨φ, S, ls, d, ls', h, r, e, q⟩ := h
  cases d with
  | tup xs =>
    cases r with
    | tup hf hr => exact ⟨_, _, rfl, hf.sq, by rw [← hr.length]; exact hg _ _ _ e, φ, S, ls, xs, ls', h, hr, e, q⟩
  | _ => cases e

/-! ### what is walked -/
def Srv (K : PySem.W.Frag) (B : Addr → Prop) (J : It) (w : Wk) (φ0 : List Addr) (S0 : Sto) (H0 : Hp) : Prop :=
  ∀ φ S H B', Stp φ0 S0 H0 φ S H → Wld K φ S H B' → (∀ a o, H0 a = some o → B' a → B a) → stands w.2 S →
    (∀ i d, w.1[i]? = some d → J.go i H ∧ ∀ x H', J.yld i H x H' → Stp φ S H φ S H' ∧ Wld K φ S H' B' ∧ Rep K φ (LB φ S B') H' d x) ∧ ∀ i, w.1.length ≤ i → J.stop i H
def upI (K : PySem.W.Frag) (mg : Str → Option Value) (z : W0) (W : WX) (w : Loc → Sto → Res Wk) : TI := fun σ H R => ∃ φ S ls, Here K z φ S ls σ H ∧ match w ls S with
  | .ok wk S' => ∀ φ' H' J, Stp φ S H φ' S' H' → Wld K φ' S' H' z.B → Srv K z.B J wk φ' S' H' → R J H'
  | .exc c fs S' => eEx K mg z W σ S' c fs
  | .bad => False
theorem kpB {φ0 φ : List Addr} {S0 S : Sto} {H0 H : Hp} {B B' : Addr → Prop} (st : Stp φ0 S0 H0 φ S H) (hB : ∀ a o, H0 a = some o → B' a → B a) : Kp φ0 (LB φ0 S0 B) H0 φ (LB φ S B') H :=
  ⟨st.pre, fun a o e n => by
    obtain ⟨h1, h2⟩ := st.keep a o e fun h => n (.inl h)
    exact ⟨h1, fun h => h.elim h2 fun h => n (.inr (hB a o e h))⟩⟩
/-- a list at a fixed place that holds the items at each turn -/
theorem srv_list {K : PySem.W.Frag} {φ : List Addr} {S : Sto} {H : Hp} {B' : Addr → Prop} {a : Addr} {xs : List D} {vs : List V} (Wd : Wld K φ S H B') (hs : SqL K H a vs) (hr : Reps K φ (LB φ S B') H xs vs) :
    (∀ i d, xs[i]? = some d → (Itl K a).go i H ∧ ∀ x H', (Itl K a).yld i H x H' → Stp φ S H φ S H' ∧ Wld K φ S H' B' ∧ Rep K φ (LB φ S B') H' d x) ∧ ∀ i, xs.length ≤ i → (Itl K a).stop i H := by
  refine ⟨fun i d e => ?_, fun i hi => ⟨vs, hs, by rw [← hr.length]; exact hi⟩⟩
  obtain ⟨v, hv, rv⟩ := hr.get e
  refine ⟨⟨vs, v, hs, hv⟩, fun x H' h => ?_⟩
  obtain ⟨rfl, hx⟩ := h
  have hx' := hx vs hs
  rw [hv] at hx'
  cases hx'
  exact ⟨Stp.refl, Wd, rv⟩
theorem srv_tup {K : PySem.W.Frag} {φ : List Addr} {S : Sto} {H : Hp} {B' : Addr → Prop} {a : Addr} {xs : List D} {vs : List V} (Wd : Wld K φ S H B') (hs : SqT K H a vs) (hr : Reps K φ (LB φ S B') H xs vs) :
    (∀ i d, xs[i]? = some d → (Itt K a).go i H ∧ ∀ x H', (Itt K a).yld i H x H' → Stp φ S H φ S H' ∧ Wld K φ S H' B' ∧ Rep K φ (LB φ S B') H' d x) ∧ ∀ i, xs.length ≤ i → (Itt K a).stop i H := by
  refine ⟨fun i d e => ?_, fun i hi => ⟨vs, hs, by rw [← hr.length]; exact hi⟩⟩
  obtain ⟨v, hv, rv⟩ := hr.get e
  refine ⟨⟨vs, v, hs, hv⟩, fun x H' h => ?_⟩
  obtain ⟨rfl, hx⟩ := h
  have hx' := hx vs hs
  rw [hv] at hx'
  cases hx'
  exact ⟨Stp.refl, Wd, rv⟩
theorem enuL_get : ∀ (xs : List D) (k i : Nat) (d : D), (enuL k xs)[i]? = some d → ∃ x, xs[i]? = some x ∧ d = .tup [.int ((k + i : Nat) : Int), x]
  | [], k, i, d, e => by simp [enuL] at e
  | x :: xs, k, 0, d, e => by
    have h : D.tup [.int (k : Int), x] = d := by simpa [enuL] using e
    exact ⟨x, rfl, by rw [← h]; simp⟩
  | x :: xs, k, i + 1, d, e => by
    obtain ⟨y, h1, h2⟩ := enuL_get xs (k + 1) i d (by simpa [enuL] using e)
    refine ⟨y, by simpa using h1, ?_⟩
    rw [h2]
    have : k + 1 + i = k + (i + 1) := by omega
    rw [this]
theorem enuL_len : ∀ (xs : List D) (k : Nat), (enuL k xs).length = xs.length
  | [], _ => rfl
  | _ :: xs, k => by rw [enuL, List.length_cons, List.length_cons, enuL_len xs]
theorem srv_enu {K : PySem.W.Frag} {φ : List Addr} {S : Sto} {H : Hp} {B' : Addr → Prop} {Sq : Hp → List V → Prop} {xs : List D} {vs : List V} (Wd : Wld K φ S H B') (hs : Sq H vs) (hr : Reps K φ (LB φ S B') H xs vs) :
    (∀ i d, (enuL 0 xs)[i]? = some d → (ItE Sq).go i H ∧ ∀ x H', (ItE Sq).yld i H x H' → Stp φ S H φ S H' ∧ Wld K φ S H' B' ∧ Rep K φ (LB φ S B') H' d x) ∧ ∀ i, (enuL 0 xs).length ≤ i → (ItE Sq).stop i H := by
  refine ⟨fun i d e => ?_, fun i hi => ⟨vs, hs, by rw [← hr.length, ← enuL_len xs 0]; exact hi⟩⟩
  obtain ⟨y, e1, rfl⟩ := enuL_get xs 0 i d e
  obtain ⟨v, hv, rv⟩ := hr.get e1
  refine ⟨⟨vs, v, hs, hv⟩, fun x H' h => ?_⟩
  obtain ⟨T, o, x', rfl, hT, hd, rfl, hx⟩ := h
  have hx' := hx vs hs
  rw [hv] at hx'
  cases hx'
  refine ⟨Stp.upd hT, Wd.upd hT, ?_⟩
  have hi : ((0 + i : Nat) : Int) = (i : Int) := by omega
  rw [hi]
  exact Rep.newTup Wd (.cons (.int _) (.cons rv .nil)) hT hd
/-- where the items stand, kept -/
theorem src_loc {K : PySem.W.Frag} {φ0 φ : List Addr} {S0 S : Sto} {H0 H : Hp} {B' : Addr → Prop} {l : Nat} {a : Addr} {xs : List D} (st : Stp φ0 S0 H0 φ S H) (Wd : Wld K φ S H B') (ha : φ0[l]? = some a) (hst : stands [(l, xs)] S) : ∃ vs, H a = some (.lst vs) ∧ Reps K φ (LB φ S B') H xs vs := by
  have e : S[l]? = some (.lst xs) := hst (l, xs) (by simp)
  obtain ⟨b, vs, h1, h2, h3⟩ := Wd.loc e
  rw [st.pre _ _ ha] at h1
  cases h1
  exact ⟨vs, h2, h3⟩
section
variable {pins : List (Addr × Obj)} {s : Shared} {tg : Expr} {R : It → Hp → Prop} {a : Addr} {vs : List V}
theorem it_list (I : Inv X pins σ H s) (hq : SqL X.K H a vs) (q : R (Itl X.K a) H) : wpAny (model X.prog X.w) X.A (pyIter (.ref a)) (PIE X pins σ tg R) X.xe s := by
  obtain ⟨its, rv, p, hz⟩ := I.list hq
  refine wpAny_pyIter_list p.isList ?_
  refine ⟨s.heap.objs.size, [s.heap.objs.size], _, _, H, rfl, I.kept (t' := s.toks) fun b o e => Heap.get?_push_of_some _ e, turn_list a _, ⟨_, Heap.get?_push_size _ rfl, rfl, rfl⟩, fun b hb => ?_, q⟩
  have e : b = s.heap.objs.size := by simpa using hb
  subst e
  exact I.fpOk (Nat.le_refl _) (I.hok.fresh (Nat.le_refl _))
theorem it_tup (I : Inv X pins σ H s) (hq : SqT X.K H a vs) (q : R (Itt X.K a) H) : wpAny (model X.prog X.w) X.A (pyIter (.ref a)) (PIE X pins σ tg R) X.xe s := by
  obtain ⟨its, rv, p, hz⟩ := I.tuple hq
  refine wpAny_pyIter_tuple (show s.heap.IsTuple a its.toArray from p) ?_
  refine ⟨s.heap.objs.size, [s.heap.objs.size], _, _, H, rfl, I.kept (t' := s.toks) fun b o e => Heap.get?_push_of_some _ e, turn_tuple a _, ⟨_, Heap.get?_push_size _ rfl, rfl, rfl⟩, fun b hb => ?_, q⟩
  have e : b = s.heap.objs.size := by simpa using hb
  subst e
  exact I.fpOk (Nat.le_refl _) (I.hok.fresh (Nat.le_refl _))
theorem it_str (I : Inv X pins σ H s) {x : Str} {t : Tok} (q : R (Its x) H) : wpAny (model X.prog X.w) X.A (pyIter (.str x t)) (PIE X pins σ tg R) X.xe s := by
  cases ha : x.cps.all (· < 128)
  · exact wpAny_pyIter_wide ha (pi_one (tk := s.toks) I _ (turn_str _ x t "str_iterator" (.inr rfl)) ⟨_, Heap.get?_push_size _ rfl, rfl, rfl⟩ q)
  · exact wpAny_pyIter_ascii ha (pi_one (tk := s.toks) I _ (turn_str _ x t "str_ascii_iterator" (.inl rfl)) ⟨_, Heap.get?_push_size _ rfl, rfl, rfl⟩ q)
end
def givesI (K : PySem.W.Frag) (mg : Str → Option Value) (z : W0) (W : WX) (σ : L2.St) (R : It → Hp → Prop) (φ : List Addr) (S : Sto) (H : Hp) (r : Res Wk) : Prop := match r with
  | .ok wk S' => ∀ φ' H' J, Stp φ S H φ' S' H' → Wld K φ' S' H' z.B → Srv K z.B J wk φ' S' H' → R J H'
  | .exc c fs S' => eEx K mg z W σ S' c fs
  | .bad => False
theorem givesI_step {K : PySem.W.Frag} {mg : Str → Option Value} {R : It → Hp → Prop} {r : Res Wk} {φ' : List Addr} {S' : Sto} {H' : Hp} (st : Stp φ S H φ' S' H') (h : givesI K mg z W σ R φ S H r) : givesI K mg z W σ R φ' S' H' r := by
  cases r with
  | bad => exact h
  | exc c fs S2 => exact h
  | ok d S2 => exact fun φ2 H2 J st2 => h φ2 H2 J (st.trans st2)
theorem upI_up {w : Loc → Sto → Res D} {f : D → Sto → Res Wk} {R : It → Hp → Prop} {Q' : VK} (h : upI X.K X.mg z W (fun ls S => (w ls S).bd f) σ H R)
    (hq : ∀ d S1 φ1 H1 v, Wld X.K φ1 S1 H1 z.B → Rep X.K φ1 (LB φ1 S1 z.B) H1 d v → (match f d S1 with
      | .ok wk S' => ∀ φ' H' J, Stp φ1 S1 H1 φ' S' H' → Wld X.K φ' S' H' z.B → Srv X.K z.B J wk φ' S' H' → R J H'
      | .exc c fs S' => eEx X.K X.mg z W σ S' c fs
      | .bad => False) → Q' v H1) : up X.K X.mg z W w σ H Q' := by
  obtain ⟨φ, S, ls, h, g⟩ := h
  refine up_seq (G := fun φ S H (r : Res Wk) => match r with
      | .ok wk S' => ∀ φ' H' J, Stp φ S H φ' S' H' → Wld X.K φ' S' H' z.B → Srv X.K z.B J wk φ' S' H' → R J H'
      | .exc c fs S' => eEx X.K X.mg z W σ S' c fs
      | .bad => False) h g (fun _ _ _ h => h) (fun _ _ _ _ _ _ h => h) fun d S1 φ1 H1 v _ st1 h1 r1 g1 => ?_
  refine hq d S1 φ1 H1 v h1.w r1 ?_
  cases e : f d S1 with
  | bad => rw [e] at g1; exact g1
  | exc c fs S' => rw [e] at g1; exact g1
  | ok wk S' => rw [e] at g1; exact fun φ' H' J st => g1 φ' H' J (st1.trans st)
theorem pi_seqD {tg l : Expr} {w : Loc → Sto → Res D} (hl : PE X l (up X.K X.mg z W w)) : PI X tg l (upI X.K X.mg z W fun ls S => (w ls S).bd fun d S1 => ofO S1 (srcD S1 d)) := by
  refine ⟨fun pins s σ H R I h => ?_⟩
  have h2 : up X.K X.mg z W w σ H fun v H1 => ∃ φ1 S1 d wk, Wld X.K φ1 S1 H1 z.B ∧ Rep X.K φ1 (LB φ1 S1 z.B) H1 d v ∧ srcD S1 d = some wk ∧ ∀ φ' H' J, Stp φ1 S1 H1 φ' S1 H' → Wld X.K φ' S1 H' z.B → Srv X.K z.B J wk φ' S1 H' → R J H' := by
    refine upI_up h fun d S1 φ1 H1 v Wd r g => ?_
    cases e : srcD S1 d with
    | none => rw [e] at g; exact g.elim
    | some wk => rw [e] at g; exact ⟨φ1, S1, d, wk, Wd, r, e, g⟩
  refine thn (hl.run pins s σ H _ I h2) fun v s1 ⟨x, H1, I1, r1, φ1, S1, d, wk, Wd, rd, e, g⟩ => ?_
  have g' : ∀ J, Srv X.K z.B J wk φ1 S1 H1 → R J H1 := fun J => g φ1 H1 J Stp.refl Wd
  cases d with
  | lst xs =>
    cases e
    cases rd with
    | lst hf hr =>
      cases r1
      refine it_list I1 hf.sq (g' _ fun φ S H B' st W' hB hst => ?_)
      exact srv_list W' (hf.keeps (kpB st hB)).sq (hr.keeps (kpB st hB))
  | ro xs =>
    cases e
    cases rd with
    | ro hf hr =>
      cases r1
      refine it_list I1 hf.sq (g' _ fun φ S H B' st W' hB hst => ?_)
      exact srv_list W' (hf.keeps (kpB st hB)).sq (hr.keeps (kpB st hB))
  | tup xs =>
    cases e
    cases rd with
    | tup hf hr =>
      cases r1
      refine it_tup I1 hf.sq (g' _ fun φ S H B' st W' hB hst => ?_)
      exact srv_tup W' (hf.keeps (kpB st hB)).sq (hr.keeps (kpB st hB))
  | loc l =>
    unfold srcD at e
    dsimp only at e
    split at e
    · rename_i xs hs
      cases e
      cases rd with
      | loc ha =>
        cases r1
        obtain ⟨b, vs, h1, h2, h3⟩ := Wd.loc hs
        rw [ha] at h1; cases h1
        refine it_list I1 (SqL.of h2) (g' _ fun φ S H B' st W' hB hst => ?_)
        obtain ⟨us, k1, k2⟩ := src_loc st W' ha hst
        exact srv_list W' (SqL.of k1) k2
    · cases e
  | str t =>
    cases e
    cases rd
    obtain ⟨tk, rfl⟩ := r1
    refine it_str I1 (g' _ fun φ S H B' st W' hB hst => ⟨fun i d e => ?_, fun i hi => ?_⟩)
    · rw [List.getElem?_map] at e
      obtain ⟨c, hc, rfl⟩ := Option.map_eq_some_iff.mp e
      have hlt : i < t.length := (List.getElem?_eq_some_iff.mp hc).1
      have hc' : (⟨t.toArray⟩ : Str).cps[i]? = some c := by simpa using hc
      refine ⟨?_, fun x H' hy => ?_⟩
      · show i < _; simpa using hlt
      · obtain ⟨rfl, c', h1, rfl⟩ := hy
        rw [hc'] at h1; cases h1
        exact ⟨Stp.refl, W', .str [c]⟩
    · show _ ≤ i
      simpa using hi
  | _ => cases e
theorem pi_enuD {l : Expr} {w : Loc → Sto → Res D} {elts : List Expr} {kk : Nat} {tpos p : Pos} (hg : Gl X "enumerate") (hm : X.mg "enumerate" = none) (hl : PE X l (up X.K X.mg z W w)) (hs : starEach [l] X.env = (false, eval l X.env) :: starEach [] X.env) :
    PI X (.Tuple elts kk tpos) (.Call (.Name "enumerate" p) [l] [] pos) (upI X.K X.mg z W fun ls S => (w ls S).bd fun d S1 => (ofO S1 (srcQ S1 d)).bd fun w S2 => .ok (enuL 0 w.1, w.2) S2) := by
  refine ⟨fun pins s σ H R I h => (pi_enumA hg hm (pa_cons hl pa_nil hs) hs).run pins s σ H R I ?_⟩
  refine upI_up h fun d S1 φ1 H1 v Wd rd g => ?_
  cases e : srcQ S1 d with
  | none => rw [e] at g; exact g.elim
  | some wk =>
    rw [e] at g
    dsimp only [ofO_some, Res.bd_ok] at g
    have g' : ∀ J, Srv X.K z.B J (enuL 0 wk.1, wk.2) φ1 S1 H1 → R J H1 := fun J => g φ1 H1 J Stp.refl Wd
    cases d with
    | lst xs =>
      cases e
      cases rd with
      | lst hf hr =>
        refine ⟨_, _, rfl, .inl ⟨hf.sq, g' _ fun φ S H B' st W' hB hst => ?_⟩⟩
        exact srv_enu W' (hf.keeps (kpB st hB)).sq (hr.keeps (kpB st hB))
    | ro xs =>
      cases e
      cases rd with
      | ro hf hr =>
        refine ⟨_, _, rfl, .inl ⟨hf.sq, g' _ fun φ S H B' st W' hB hst => ?_⟩⟩
        exact srv_enu W' (hf.keeps (kpB st hB)).sq (hr.keeps (kpB st hB))
    | tup xs =>
      cases e
      cases rd with
      | tup hf hr =>
        refine ⟨_, _, rfl, .inr ⟨hf.sq, g' _ fun φ S H B' st W' hB hst => ?_⟩⟩
        exact srv_enu W' (hf.keeps (kpB st hB)).sq (hr.keeps (kpB st hB))
    | loc l =>
      unfold srcQ srcD at e
      dsimp only at e
      split at e
      · rename_i xs hs
        cases e
        cases rd with
        | loc ha =>
          obtain ⟨b, vs, h1, h2, h3⟩ := Wd.loc hs
          rw [ha] at h1; cases h1
          refine ⟨_, _, rfl, .inl ⟨SqL.of h2, g' _ fun φ S H B' st W' hB hst => ?_⟩⟩
          obtain ⟨us, k1, k2⟩ := src_loc st W' ha hst
          exact srv_enu W' (SqL.of k1) k2
      · cases e
    | _ => cases e
theorem rngL_get {lo : Int} {n i : Nat} {d : D} (e : (rngL lo n)[i]? = some d) : i < n ∧ d = .int (lo + i) := by
  unfold rngL at e
  rw [List.getElem?_map] at e
  obtain ⟨k, hk, rfl⟩ := Option.map_eq_some_iff.mp e
  obtain ⟨hl, rfl⟩ := List.getElem?_eq_some_iff.mp hk
  rw [List.length_range] at hl
  exact ⟨hl, by simp⟩
theorem srv_rng {K : PySem.W.Frag} {B : Addr → Prop} {lo : Int} {n : Nat} {φ0 : List Addr} {S0 : Sto} {H0 : Hp} : Srv K B (Itr lo n) (rngL lo n, []) φ0 S0 H0 := fun φ S H B' st W' hB hst =>
  ⟨fun i d e => by
    obtain ⟨hi, rfl⟩ := rngL_get e
    exact ⟨hi, fun x H' h => by obtain ⟨rfl, rfl⟩ := h; exact ⟨Stp.refl, W', .int _⟩⟩, fun i hi => by
    show n ≤ i
    simpa [rngL] using hi⟩
theorem rngOk_h {i : Int} (h : rngOk i = true) : -(2 ^ 62) ≤ i ∧ i < 2 ^ 62 := by
  simpa [rngOk] using h
theorem pi_rng1D {tg a : Expr} {w : Loc → Sto → Res D} {p : Pos} (hg : Gl X "range") (hm : X.mg "range" = none) (ha : PE X a (up X.K X.mg z W w)) (hs : starEach [a] X.env = (false, eval a X.env) :: starEach [] X.env) :
    PI X tg (.Call (.Name "range" p) [a] [] pos) (upI X.K X.mg z W fun ls S => (w ls S).bd fun d S1 => match d with
      | .int j => if rngOk j then .ok (rngL 0 j.toNat, []) S1 else .bad
      | _ => .bad) := by
  refine ⟨fun pins s σ H R I h => (pi_range1 hg hm (pa_cons ha pa_nil hs) hs).run pins s σ H R I ?_⟩
  refine upI_up h fun d S1 φ1 H1 v Wd rd g => ?_
  cases d with
  | int j =>
    cases rd
    dsimp only at g
    by_cases hj : rngOk j = true
    · rw [if_pos hj] at g
      obtain ⟨h1, h2⟩ := rngOk_h hj
      exact ⟨j, rfl, h1, h2, g φ1 H1 _ Stp.refl Wd srv_rng⟩
    · rw [if_neg hj] at g; exact g.elim
  | _ => exact g.elim
theorem pi_rng2D {tg a b : Expr} {w u : Loc → Sto → Res D} {p : Pos} (hg : Gl X "range") (hm : X.mg "range" = none) (ha : PE X a (up X.K X.mg z W w)) (hb : PE X b (up X.K X.mg z W u)) (hs : starEach [a, b] X.env = (false, eval a X.env) :: starEach [b] X.env) (hs2 : starEach [b] X.env = (false, eval b X.env) :: starEach [] X.env) :
    PI X tg (.Call (.Name "range" p) [a, b] [] pos) (upI X.K X.mg z W fun ls S => (w ls S).bd fun d S1 => (u ls S1).bd fun e S2 => match d, e with
      | .int i, .int j => if rngOk i && rngOk j then .ok (rngL i (j - i).toNat, []) S2 else .bad
      | _, _ => .bad) := by
  refine ⟨fun pins s σ H R I h => (pi_range2 hg hm (pa_cons ha (pa_cons hb pa_nil hs2) hs) (hs.trans (by rw [hs2]; rfl)) hs2).run pins s σ H R I ?_⟩
  obtain ⟨φ, S, ls, h, g⟩ := h
  refine up_seq (G := fun φ S H (r : Res Wk) => givesI X.K X.mg z W σ R φ S H r) h g (fun _ _ _ h => h) (fun _ _ _ _ _ _ h => h) fun d S1 φ1 H1 v _ st1 h1 r1 g1 => ?_
  refine up_seq (G := fun φ S H (r : Res Wk) => givesI X.K X.mg z W σ R φ S H r) h1 (givesI_step st1 g1) (fun _ _ _ h => h) (fun _ _ _ _ _ _ h => h) fun d2 S2 φ2 H2 v2 _ st2 h2 r2 g2 => ?_
  have g3 := givesI_step st2 g2
  cases d with
  | int i =>
    cases d2 with
    | int j =>
      cases r1; cases r2
      dsimp only at g3
      by_cases hj : (rngOk i && rngOk j) = true
      · rw [if_pos hj] at g3
        simp only [Bool.and_eq_true] at hj
        obtain ⟨k1, k2⟩ := rngOk_h hj.1
        obtain ⟨k3, k4⟩ := rngOk_h hj.2
        exact ⟨i, j, rfl, ⟨k1, k2, k3, k4⟩, g3 φ2 H2 _ Stp.refl h2.w srv_rng⟩
      · rw [if_neg hj] at g3; exact g3.elim
    | _ => exact g3.elim
  | _ => exact g3.elim
end
end Ev
/-! Ev15: list comprehensions. -/
namespace Ev
open PySem PySem.Spec PyProof.Rows L2

/-- no error comes out -/
def noW : WX := fun _ _ _ _ => False
def exP (K : PySem.W.Frag) (mg : Str → Option Value) (w : Loc → Sto → Res D) : TE := fun σ H Q => ∃ z, up K mg z noW w σ H Q
def exT (K : PySem.W.Frag) (mg : Str → Option Value) (w : Loc → Sto → Res D) : TT := fun σ H Q => ∃ z, upT K mg z noW w σ H Q
def exG (K : PySem.W.Frag) (is : List Nat) (f : D → Loc → Option Loc) : TG := fun v σ H Q => ∃ z, upG K z is f v σ H Q
section
variable {X : Cx} {W : WX} {φ : List Addr} {S : Sto} {H : Hp} {σ : L2.St} {pos : Pos} {e : Expr}
theorem pe_exP {w : Loc → Sto → Res D} (h : ∀ z, PE X e (up X.K X.mg z noW w)) : PE X e (exP X.K X.mg w) := ⟨fun pins s σ H Q I q => by
  obtain ⟨z, q⟩ := q
  exact (h z).run pins s σ H Q I q⟩
theorem pt_exT {w : Loc → Sto → Res D} (h : ∀ z, PT X e (upT X.K X.mg z noW w)) : PT X e (exT X.K X.mg w) := ⟨fun pins s σ H Q I q => by
  obtain ⟨z, q⟩ := q
  exact (h z).run pins s σ H Q I q⟩
theorem pg_exG {is : List Nat} {f : D → Loc → Option Loc} (h : ∀ z, PG X e (upG X.K z is f)) : PG X e (exG X.K is f) := ⟨fun pins s σ H v u Q I r q => by
  obtain ⟨z, q⟩ := q
  exact (h z).run pins s σ H v u Q I r q⟩
/-- without the thing at D -/
def cutH (H : Hp) (D : Addr) : Hp := fun a => if a = D then none else H a
theorem cutH_same {D : Addr} : cutH H D D = none := by simp [cutH]
theorem cutH_ne {D a : Addr} (h : a ≠ D) : cutH H D a = H a := by simp [cutH, h]
theorem cutH_upd {D : Addr} {o : HO} (h : H D = some o) : L2.upd (cutH H D) D o = H := by
  funext a
  by_cases ha : a = D
  · subst ha; rw [upd_same, h]
  · rw [upd_ne ha, cutH_ne ha]
def orB (B : Addr → Prop) (D : Addr) : Addr → Prop := fun a => B a ∨ a = D
theorem kp_in {φ φ' : List Addr} {S S' : Sto} {H H' : Hp} {B : Addr → Prop} {D : Addr} {o : HO} (st : Stp φ S H φ' S' H') (hD : H' D = none) : Kp φ (LB φ S B) H φ' (LB φ' S' (orB B D)) (L2.upd H' D o) :=
  ⟨st.pre, fun a u e n => by
    obtain ⟨h1, h2⟩ := st.keep a u e fun h => n (.inl h)
    have ne : a ≠ D := fun h => by rw [h, hD] at h1; cases h1
    refine ⟨by rw [upd_ne ne]; exact h1, fun h => ?_⟩
    rcases h with h | h | h
    · exact h2 h
    · exact n (.inr h)
    · exact ne h⟩
theorem kp_out {φ : List Addr} {S : Sto} {H : Hp} {B : Addr → Prop} {D : Addr} : Kp φ (LB φ S (orB B D)) H φ (LB φ S B) (cutH H D) :=
  ⟨fun _ _ h => h, fun a u e n => by
    have ne : a ≠ D := fun h => n (.inr (.inr h))
    exact ⟨by rw [cutH_ne ne]; exact e, fun h => n (h.elim .inl fun h => .inr (.inl h))⟩⟩
theorem wld_in {K : PySem.W.Frag} {B : Addr → Prop} {D : Addr} {o : HO} (Wd : Wld K φ S H B) (hD : H D = none) : Wld K φ S (L2.upd H D o) (orB B D) := by
  refine ⟨Wd.len, Wd.nd, fun l ob e n => ?_, fun a h => ?_, fun a h => ?_, fun a h => ?_⟩
  · obtain ⟨a, ho, h1, h2, h3⟩ := Wd.ob l ob e n
    have ne : a ≠ D := fun h => by rw [h, hD] at h2; cases h2
    refine ⟨a, ho, h1, by rw [upd_ne ne]; exact h2, ?_⟩
    have k := kp_in (B := B) (o := o) (Stp.refl (φ := φ) (S := S) (H := H)) hD
    cases h3 with
    | lst r => exact .lst (r.keeps k)
    | dic ek r l => exact .dic ek (r.keeps k) l
  · rcases h with h | h
    · obtain ⟨u, hu⟩ := Wd.bt a h
      by_cases ha : a = D
      · exact ⟨o, by rw [ha, upd_same]⟩
      · exact ⟨u, by rw [upd_ne ha]; exact hu⟩
    · exact ⟨o, by rw [h, upd_same]⟩
  · rcases h with h | h
    · exact Wd.bn a h
    · rw [h]; exact Wd.freshφ hD
  · obtain ⟨u, hu⟩ := Wd.ft a h
    by_cases ha : a = D
    · exact ⟨o, by rw [ha, upd_same]⟩
    · exact ⟨u, by rw [upd_ne ha]; exact hu⟩
theorem wld_out {K : PySem.W.Frag} {B : Addr → Prop} {D : Addr} (Wd : Wld K φ S H (orB B D)) (hB : ¬ B D) : Wld K φ S (cutH H D) B := by
  have hφ : D ∉ φ := Wd.bn D (.inr rfl)
  refine ⟨Wd.len, Wd.nd, fun l ob e n => ?_, fun a h => ?_, fun a h => Wd.bn a (.inl h), fun a h => ?_⟩
  · obtain ⟨a, ho, h1, h2, h3⟩ := Wd.ob l ob e n
    have ne : a ≠ D := fun h => hφ (h ▸ List.mem_of_getElem? h1)
    refine ⟨a, ho, h1, by rw [cutH_ne ne]; exact h2, ?_⟩
    have k : Kp φ (LB φ S (orB B D)) H φ (LB φ S B) (cutH H D) := kp_out
    cases h3 with
    | lst r => exact .lst (r.keeps k)
    | dic ek r l => exact .dic ek (r.keeps k) l
  · obtain ⟨u, hu⟩ := Wd.bt a (.inl h)
    exact ⟨u, by rw [cutH_ne (fun e => by subst e; exact hB h)]; exact hu⟩
  · obtain ⟨u, hu⟩ := Wd.ft a h
    exact ⟨u, by rw [cutH_ne (fun e => by subst e; exact hφ h)]; exact hu⟩
/-- in the block: the list that is built goes on -/
theorem wld_app {K : PySem.W.Frag} {B : Addr → Prop} {D : Addr} {o o' : HO} (Wd : Wld K φ S H (orB B D)) (hD : H D = some o) : Wld K φ S (L2.upd H D o') (orB B D) ∧ Kp φ (LB φ S (orB B D)) H φ (LB φ S (orB B D)) (L2.upd H D o') := by
  have k : Kp φ (LB φ S (orB B D)) H φ (LB φ S (orB B D)) (L2.upd H D o') := ⟨fun _ _ h => h, fun a u e n => by
    have ne : a ≠ D := fun h => n (.inr (.inr h))
    exact ⟨by rw [upd_ne ne]; exact e, n⟩⟩
  have hφ : D ∉ φ := Wd.bn D (.inr rfl)
  have ex : ∀ a u, H a = some u → ∃ u', L2.upd H D o' a = some u' := fun a u h => by
    by_cases ha : a = D
    · exact ⟨o', by rw [ha, upd_same]⟩
    · exact ⟨u, by rw [upd_ne ha]; exact h⟩
  refine ⟨⟨Wd.len, Wd.nd, fun l ob e n => ?_, fun a h => ?_, Wd.bn, fun a h => ?_⟩, k⟩
  · obtain ⟨a, ho, h1, h2, h3⟩ := Wd.ob l ob e n
    have ne : a ≠ D := fun h => hφ (h ▸ List.mem_of_getElem? h1)
    refine ⟨a, ho, h1, by rw [upd_ne ne]; exact h2, ?_⟩
    cases h3 with
    | lst r => exact .lst (r.keeps k)
    | dic ek r l => exact .dic ek (r.keeps k) l
  · obtain ⟨u, hu⟩ := Wd.bt a h; exact ex a u hu
  · obtain ⟨u, hu⟩ := Wd.ft a h; exact ex a u hu
theorem stp_cut {φ φ' : List Addr} {S S' : Sto} {H H' : Hp} {D : Addr} (st : Stp φ S H φ' S' H') : Stp φ S (cutH H D) φ' S' (cutH H' D) := by
  refine ⟨st.pre, fun a o e n => ?_, fun a o e => ?_⟩
  · have ne : a ≠ D := fun h => by rw [h, cutH_same] at e; cases e
    rw [cutH_ne ne] at e
    obtain ⟨h1, h2⟩ := st.keep a o e n
    exact ⟨by rw [cutH_ne ne]; exact h1, h2⟩
  · have ne : a ≠ D := fun h => by rw [h, cutH_same] at e; cases e
    rw [cutH_ne ne] at e
    obtain ⟨u, h1⟩ := st.more a o e
    exact ⟨u, by rw [cutH_ne ne]; exact h1⟩
theorem stp_uncut {φ φ' : List Addr} {S S' : Sto} {H H' : Hp} {D : Addr} (st : Stp φ S H φ' S' (cutH H' D)) : Stp φ S H φ' S' H' := by
  have k : ∀ a o, cutH H' D a = some o → H' a = some o := fun a o e => by
    have ne : a ≠ D := fun h => by rw [h, cutH_same] at e; cases e
    rwa [cutH_ne ne] at e
  refine ⟨st.pre, fun a o e n => ?_, fun a o e => ?_⟩
  · obtain ⟨h1, h2⟩ := st.keep a o e n
    exact ⟨k a o h1, h2⟩
  · obtain ⟨u, h1⟩ := st.more a o e
    exact ⟨u, k a u h1⟩
theorem cut_none {D : Addr} (h : H D = none) {o : HO} : cutH (L2.upd H D o) D = H := by
  funext a
  by_cases ha : a = D
  · subst ha; rw [cutH_same, h]
  · rw [cutH_ne ha, upd_ne ha]
theorem cut_upd {D : Addr} {o : HO} : cutH (L2.upd H D o) D = cutH H D := by
  funext a
  by_cases ha : a = D
  · subst ha; rw [cutH_same, cutH_same]
  · rw [cutH_ne ha, cutH_ne ha, upd_ne ha]
/-- at a turn: S, what has been gathered, the world -/
structure InB (K : PySem.W.Frag) (B : Addr → Prop) (Dd : Addr) (φ1 : List Addr) (S1 : Sto) (H1 : Hp) (ls : Loc) (σ : L2.St) (φ : List Addr) (S : Sto) (H : Hp) (acc : List D) : Prop where
  w : Wld K φ S H (orB B Dd)
  st : Stp φ1 S1 H1 φ S (cutH H Dd)
  l : LocR K φ (LB φ S (orB B Dd)) H ls σ
  a : ∃ vs, H Dd = some (.lst vs) ∧ Reps K φ (LB φ S (orB B Dd)) H acc vs
def turnF (cx : Cxt) (tg : Tg) (own : List Nat) (ls : Loc) (wc : Option (Loc → Sto → Res D)) (we : Loc → Sto → Res D) (x : D) (acc : List D) (S : Sto) : Res (List D) := match asg tg x (wipeL ls own) with
  | some l2 => (match wc with
    | none => (we l2 S).bd fun y S3 => if acc.length < 16777216 then .ok (acc ++ [y]) S3 else .bad
    | some c => (c l2 S).bd fun b S3 => match b with
      | .bl true => (we l2 S3).bd fun y S4 => if acc.length < 16777216 then .ok (acc ++ [y]) S4 else .bad
      | .bl false => .ok acc S3
      | _ => .bad)
  | none => .bad
variable {K : PySem.W.Frag} {mg : Str → Option Value} {B : Addr → Prop} {Dd : Addr} {φ1 : List Addr} {S1 : Sto} {H1 : Hp} {ls : Loc} {acc : List D}
theorem InB.here (h : InB K B Dd φ1 S1 H1 ls σ φ S H acc) : Here K ⟨φ, S, H, orB B Dd⟩ φ S ls σ H := ⟨Stp.refl, h.w, h.l⟩
theorem InB.dead (h : InB K B Dd φ1 S1 H1 ls σ φ S H acc) : ¬ live φ S Dd := fun ⟨l, o, e, _, _⟩ => h.w.bn Dd (.inr rfl) (List.mem_of_getElem? e)
theorem InB.step (h : InB K B Dd φ1 S1 H1 ls σ φ S H acc) {φ' : List Addr} {S' : Sto} {H' : Hp} (st : Stp φ S H φ' S' H') (wd : Wld K φ' S' H' (orB B Dd)) : InB K B Dd φ1 S1 H1 ls σ φ' S' H' acc := by
  obtain ⟨vs, h1, h2⟩ := h.a
  exact ⟨wd, h.st.trans (stp_cut st), h.l.step st.keeps, vs, (st.keep _ _ h1 h.dead).1, h2.step st⟩
theorem InB.app (h : InB K B Dd φ1 S1 H1 ls σ φ S H acc) {y : D} {v : V} (r : Rep K φ (LB φ S (orB B Dd)) H y v) : ∃ vs, H Dd = some (.lst vs) ∧ vs.length = acc.length ∧ InB K B Dd φ1 S1 H1 ls σ φ S (L2.upd H Dd (.lst (vs ++ [v]))) (acc ++ [y]) := by
  obtain ⟨vs, h1, h2⟩ := h.a
  obtain ⟨w, k⟩ := wld_app (o' := .lst (vs ++ [v])) h.w h1
  refine ⟨vs, h1, h2.length.symm, w, by rw [cut_upd]; exact h.st, h.l.step k, vs ++ [v], upd_same, (h2.keeps k).append (.cons (r.keeps k) .nil)⟩
theorem InB.loc (h : InB K B Dd φ1 S1 H1 ls σ φ S H acc) {ls' : Loc} {σ' : L2.St} (l : LocR K φ (LB φ S (orB B Dd)) H ls' σ') : InB K B Dd φ1 S1 H1 ls' σ' φ S H acc := ⟨h.w, h.st, l, h.a⟩
/-- one turn -/
theorem turn_up {cx : Cxt} {tg : Tg} {own : List Nat} {wc : Option (Loc → Sto → Res D)} {we : Loc → Sto → Res D} {tt : TT} (hi : ∀ i ∈ tgIx tg, i ∈ own) (htt : tt = match wc with
    | none => tYes
    | some c => exT K mg c) {x : D} {xv : V} {acc' : List D} {S' : Sto} {Nx : Hp → Prop} (h : InB K B Dd φ1 S1 H1 (wipeL ls own) (wipe σ own) φ S H acc) (rx : Rep K φ (LB φ S (orB B Dd)) H x xv)
    (e : turnF cx tg own ls wc we x acc S = .ok acc' S') (hN : ∀ φ' H', InB K B Dd φ1 S1 H1 (wipeL ls own) (wipe σ own) φ' S' H' acc' → Nx H') :
    exG K (tgIx tg) (asg tg) xv (wipe σ own) H fun σ2 H2 => wipe σ2 own = wipe σ own ∧ tt σ2 H2 fun b H3 =>
      if b = true then exP K mg we σ2 H3 fun y H4 => ∃ ac, H4 Dd = some (.lst ac) ∧ ac.length < sizeLine ∧ Nx (L2.upd H4 Dd (.lst (ac ++ [y]))) else Nx H3 := by
  unfold turnF at e
  cases e0 : asg tg x (wipeL ls own) with
  | none => rw [e0] at e; cases e
  | some l2 =>
    rw [e0] at e
    dsimp only at e
    refine ⟨⟨φ, S, H, orB B Dd⟩, φ, S, wipeL ls own, x, l2, h.here, rx, e0, fun σ2 h2 hw => ⟨by rw [hw own hi, wipe_idem], ?_⟩⟩
    -- the element
    have elt : ∀ {φ3 S3 H3}, InB K B Dd φ1 S1 H1 (wipeL ls own) (wipe σ own) φ3 S3 H3 acc → LocR K φ3 (LB φ3 S3 (orB B Dd)) H3 l2 σ2 → ((we l2 S3).bd fun y S4 => if acc.length < 16777216 then .ok (acc ++ [y]) S4 else .bad) = .ok acc' S' →
        exP K mg we σ2 H3 fun y H4 => ∃ ac, H4 Dd = some (.lst ac) ∧ ac.length < sizeLine ∧ Nx (L2.upd H4 Dd (.lst (ac ++ [y]))) := by
      intro φ3 S3 H3 h3 l3 e3
      refine ⟨⟨φ3, S3, H3, orB B Dd⟩, φ3, S3, l2, ⟨Stp.refl, h3.w, l3⟩, ?_⟩
      cases e4 : we l2 S3 with
      | bad => rw [e4] at e3; cases e3
      | exc _ _ _ => rw [e4] at e3; cases e3
      | ok y S4 =>
        rw [e4, Res.bd_ok] at e3
        by_cases hl : acc.length < 16777216
        · rw [if_pos hl] at e3
          cases e3
          intro φ4 H4 v st4 wd4 r4
          have h4 := h3.step st4 wd4
          obtain ⟨vs, k1, k2, k3⟩ := h4.app r4
          exact ⟨vs, k1, by rw [k2, sz_eq]; exact hl, hN φ4 _ k3⟩
        · rw [if_neg hl] at e3; cases e3
    cases wc with
    | none =>
      subst htt
      dsimp only at e ⊢
      have q := elt h h2.l e
      show tYes σ2 H _
      unfold tYes
      dsimp only
      rw [if_pos rfl]
      exact q
    | some c =>
      subst htt
      dsimp only at e ⊢
      refine ⟨⟨φ, S, H, orB B Dd⟩, φ, S, l2, h2, ?_⟩
      cases e5 : c l2 S with
      | bad => rw [e5] at e; cases e
      | exc _ _ _ => rw [e5] at e; cases e
      | ok b S3 =>
        rw [e5, Res.bd_ok] at e
        cases b with
        | bl k =>
          intro φ3 H3 st3 wd3
          have h3 := h.step st3 wd3
          cases k with
          | true =>
            rw [if_pos rfl]
            exact elt h3 (h2.l.step st3.keeps) e
          | false =>
            rw [if_neg Bool.false_ne_true]
            cases e
            exact hN φ3 H3 h3
        | _ => cases e
theorem compF_turn {cx : Cxt} {ps : List (Nat × List D)} {f : D → List D → Sto → Res (List D)} {x : D} {xs acc res : List D} {S Sf : Sto} (e : compF ps f (x :: xs) acc S = .ok res Sf) : stands ps S ∧ ∃ acc' S', f x acc S = .ok acc' S' ∧ compF ps f xs acc' S' = .ok res Sf := by
  unfold compF at e
  by_cases h : stands ps S
  · rw [gd_pos h] at e
    cases e2 : f x acc S with
    | bad => rw [e2] at e; cases e
    | exc _ _ _ => rw [e2] at e; cases e
    | ok a s => rw [e2] at e; exact ⟨h, a, s, rfl, e⟩
  · rw [gd_neg h] at e; cases e
/-- the whole comprehension -/
theorem lc_up {z : W0} {cx : Cxt} {tg : Tg} {own : List Nat} {wi : Loc → Sto → Res Wk} {wc : Option (Loc → Sto → Res D)} {we : Loc → Sto → Res D} {tt : TT} {Q : VK} (hi : ∀ i ∈ tgIx tg, i ∈ own) (htt : tt = match wc with
    | none => tYes
    | some c => exT K mg c)
    (h : upN K mg z W (fun ls S => (wi ls S).bd fun w S1 => (compF w.2 (turnF cx tg own ls wc we) w.1 [] S1).nox.bd fun acc S2 => .ok (.lst acc) S2) σ H Q) :
    tLc (upI K mg z W wi) (exG K (tgIx tg) (asg tg)) tt (exP K mg we) own σ H Q := by
  obtain ⟨φ, S, ls, h, g⟩ := h
  try dsimp only at g
  refine ⟨φ, S, ls, h, ?_⟩
  cases e1 : wi ls S with
  | bad => rw [e1] at g; exact g
  | exc c fs S' => rw [e1] at g; exact g
  | ok wk S1 =>
    rw [e1, Res.bd_ok] at g
    cases e2 : compF wk.2 (turnF cx tg own ls wc we) wk.1 [] S1 with
    | bad => rw [e2] at g; exact g.elim
    | exc _ _ _ => rw [e2] at g; exact g.elim
    | ok res Sf =>
      rw [e2] at g
      have g : eNew K z φ S Sf H (.lst res) Q := g
      intro φ1 H1 J st1 wd1 srv D hD
      have hB : ¬ z.B D := fun h => by obtain ⟨o, e⟩ := wd1.bt D h; rw [hD] at e; cases e
      have start : InB K z.B D φ1 S1 H1 (wipeL ls own) (wipe σ own) φ1 S1 (L2.upd H1 D (.lst [])) [] :=
        ⟨wld_in wd1 hD, by rw [cut_none hD]; exact Stp.refl, ((h.wipe own).l.step st1.keeps).step (kp_in Stp.refl hD), [], upd_same, .nil⟩
      refine ⟨fun i m H' => m + i = wk.1.length ∧ ∃ φ' S' acc, InB K z.B D φ1 S1 H1 (wipeL ls own) (wipe σ own) φ' S' H' acc ∧ compF wk.2 (turnF cx tg own ls wc we) (wk.1.drop i) acc S' = .ok res Sf, ⟨wk.1.length, rfl, φ1, S1, [], start, e2⟩, ?_⟩
      rintro i m H' ⟨hm, φ', S', acc, hb, ec⟩
      cases hx : wk.1.drop i with
      | nil =>
        rw [hx] at ec
        unfold compF at ec
        by_cases hs : stands wk.2 S'
        · rw [gd_pos hs] at ec
          cases ec
          have hlen : wk.1.length ≤ i := by simpa using hx
          obtain ⟨_, stop⟩ := srv φ' _ H' (orB z.B D) (stp_uncut hb.st) hb.w (fun a o ha hb => hb.elim id fun e => by rw [e, hD] at ha; cases ha) hs
          refine .inl ⟨stop i hlen, ?_⟩
          obtain ⟨vs, k1, k2⟩ := hb.a
          have q := g φ' (cutH H' D) D vs (st1.trans hb.st) (wld_out hb.w hB) (k2.keeps kp_out) cutH_same
          rw [cutH_upd k1] at q
          exact q
        · rw [gd_neg hs] at ec; cases ec
      | cons x xs =>
        rw [hx] at ec
        obtain ⟨hs, acc', S2, e3, e4⟩ := compF_turn (cx := cx) ec
        obtain ⟨turn, _⟩ := srv φ' S' H' (orB z.B D) (stp_uncut hb.st) hb.w (fun a o ha hb => hb.elim id fun e => by rw [e, hD] at ha; cases ha) hs
        have hxi : wk.1[i]? = some x := by
          have h0 : (wk.1.drop i)[0]? = some x := by rw [hx]; rfl
          rw [List.getElem?_drop] at h0
          exact h0
        have hil : i < wk.1.length := (List.getElem?_eq_some_iff.mp hxi).1
        have hxs : wk.1.drop (i + 1) = xs := by
          have h0 : (wk.1.drop i).drop 1 = xs := by rw [hx]; rfl
          rw [List.drop_drop] at h0
          exact h0
        obtain ⟨go, yl⟩ := turn i x hxi
        refine .inr ⟨go, fun H2 => ∃ φ2, InB K z.B D φ1 S1 H1 (wipeL ls own) (wipe σ own) φ2 S2 H2 acc', fun H2 ⟨φ2, h2⟩ => ⟨m - 1, by omega, by omega, φ2, S2, acc', h2, by rw [hxs]; exact e4⟩, fun xv H2 hy => ?_⟩
        obtain ⟨y1, y2, y3⟩ := yl xv H2 hy
        exact turn_up (cx := cx) hi htt (hb.step y1 y2) y3 e3 fun φ3 H3 h3 => ⟨φ3, h3⟩
/-- [elt for tg in iter if c] -/
theorem pe_compD {z : W0} {cx : Cxt} {tg : Tg} {own : List (Str × Nat)} {wi : Loc → Sto → Res Wk} {wc : Option (Loc → Sto → Res D)} {we : Loc → Sto → Res D} {elt tgE iter : Expr} {ifs : List Expr} {scope : Scope} {tt : TT} (hc : X.calm = true) (hN : X.N.Nodup)
    (hix : ∀ i ∈ tgIx tg, i ∈ own.map (·.2)) (htt : tt = match wc with
    | none => tYes
    | some c => exT X.K X.mg c) (hi : PI X tgE iter (upI X.K X.mg z W wi)) (ok : BlkOk X.N X.env.scope scope own)
    (hg : ∀ (s : Shared) (H : Hp) (C : Addr) (cl : List (Str × Addr)) (fp : List Addr), PG (X.blk s H scope (compEnvC scope cl C X.env) fp) tgE (exG X.K (tgIx tg) (asg tg)))
    (ht : ∀ (s : Shared) (H : Hp) (C : Addr) (cl : List (Str × Addr)) (fp : List Addr), PTs (X.blk s H scope (compEnvC scope cl C X.env) fp) ifs tt)
    (he : ∀ (s : Shared) (H : Hp) (C : Addr) (cl : List (Str × Addr)) (fp : List Addr), PE (X.blk s H scope (compEnvC scope cl C X.env) fp) elt (exP X.K X.mg we)) (hs : ∀ x, foldedSetIterable iter X.env x = pure x) :
    PE X (.ListComp elt [⟨tgE, iter, ifs, 0⟩] scope pos) (upN X.K X.mg z W fun ls S => (wi ls S).bd fun w S1 => (compF w.2 (turnF cx tg (own.map (·.2)) ls wc we) w.1 [] S1).nox.bd fun acc S2 => .ok (.lst acc) S2) :=
  ⟨fun pins s σ H Q I h => (pe_lc hc hN hi ok hg ht he hs).run pins s σ H Q I (lc_up hix htt h)⟩
end
end Ev
/-! EvD: displays of dicts with constant keys. -/
namespace Ev
open PySem PySem.Spec PyProof.Rows L2
/-- keys, no two alike -/
def ndK : List D → Prop
  | [] => True
  | d :: ds => isK d = true ∧ (ds.any fun e => sameK e d) = false ∧ ndK ds
section
variable {X : Cx} {z : W0} {W : WX} {φ : List Addr} {S : Sto} {H : Hp} {σ : L2.St} {pos : Pos}
/-- the pairs of a display, their values' data -/
def prU (K : PySem.W.Frag) (mg : Str → Option Value) (z : W0) (ks : List D) (w : Loc → Sto → Res (List D)) : L2.St → Hp → (List (V × V) → Hp → Prop) → Prop := fun σ H Q => ∃ φ S ls ds S', Here K z φ S ls σ H ∧ w ls S = .ok ds S' ∧ ds.length = ks.length ∧
  ∀ φ' H' us (ws : List Key), Stp φ S H φ' S' H' → Wld K φ' S' H' z.B → Reps K φ' (LB φ' S' z.B) H' ds us → ks.map keyD = ws.map some → ws.length = us.length → Q ((ws.zip us).map fun kv => (kV kv.1, kv.2)) H'
structure PPr (X : Cx) (pos : Pos) (Ks : List (Option Expr)) (Vs : List Expr) (ks : List D) (w : Loc → Sto → Res (List D)) : Prop where
  ex : ∃ trs, PPs X pos Ks Vs trs ∧ ∀ z σ H Q, prU X.K X.mg z ks w σ H Q → tPairs trs σ H Q
theorem ppr_nil : PPr X pos [] [] [] fun _ S => .ok [] S := ⟨[], pps_nil, fun z σ H Q h => by
  obtain ⟨φ, S, ls, ds, S', h, e, hl, q⟩ := h
  cases e
  exact q φ H [] [] Stp.refl h.w .nil rfl rfl⟩
theorem ppr_cons {Ks : List (Option Expr)} {Vs : List Expr} {d : D} {ks : List D} {c : Const} {j : Nat} {p : Pos} {E : Expr} {w : Loc → Sto → Res D} {ws : Loc → Sto → Res (List D)} (hk : isK d = true) (hc : conB d c = true) (he : ∀ z, PE X E (up X.K X.mg z noW w)) (hr : PPr X pos Ks Vs ks ws) :
    PPr X pos (some (.Constant c j p) :: Ks) (E :: Vs) (d :: ks) fun ls S => (w ls S).bd fun d S1 => (ws ls S1).bd fun ds S2 => .ok (d :: ds) S2 := by
  obtain ⟨trs, h1, h2⟩ := hr.ex
  have hcon : ∃ v, PE X (.Constant c j p) (fun _ H Q => Q v H) ∧ ∀ K φ L H, Rep K φ L H d v := by
    unfold conB at hc
    split at hc
    · exact ⟨_, pe_non, fun _ _ _ _ => .non⟩
    · rename_i b b'
      have e : b = b' := by simpa using hc
      subst e
      exact ⟨_, pe_bl, fun _ _ _ _ => .bl b⟩
    · rename_i i j
      have e : i = j := by simpa using hc
      subst e
      exact ⟨_, pe_int, fun _ _ _ _ => .int i⟩
    · rename_i s x
      have e : s = x.cps.toList := by simpa using hc
      subst e
      exact ⟨_, pe_str, fun _ _ _ _ => .str x.cps.toList⟩
    · cases hc
  obtain ⟨v, pv, rv⟩ := hcon
  refine ⟨(_, _) :: trs, pps_cons pv (pe_exP he) h1, fun z σ H Q h => ?_⟩
  obtain ⟨φ, S, ls, ds, S', h, e, hl, q⟩ := h
  show exP X.K X.mg w σ H _
  refine ⟨z, φ, S, ls, h, ?_⟩
  dsimp only at e
  cases e1 : w ls S with
  | bad => rw [e1] at e; cases e
  | exc _ _ _ => rw [e1] at e; cases e
  | ok y S1 =>
    rw [e1, Res.bd_ok] at e
    cases e2 : ws ls S1 with
    | bad => rw [e2] at e; cases e
    | exc _ _ _ => rw [e2] at e; cases e
    | ok ds' S2 =>
      rw [e2, Res.bd_ok] at e
      cases e
      intro φ1 H1 u st1 wd1 ru
      refine h2 z σ H1 _ ⟨φ1, S1, ls, ds', _, h.step st1 wd1, e2, by simpa using hl, fun φ2 H2 us kws st2 wd2 rus hks hlen => ?_⟩
      obtain ⟨kw, hkw⟩ := isK_key hk
      have r0 := q φ2 H2 (u :: us) (kw :: kws) (st1.trans st2) wd2 (.cons (ru.step st2) rus) (by rw [List.map_cons, List.map_cons, hkw, hks]) (by rw [List.length_cons, List.length_cons, hlen])
      have ev : v = kV kw := keyD_rep (K := X.K) (φ := φ2) (L := fun _ => False) (H := H2) hkw (rv X.K φ2 (fun _ => False) H2)
      rw [ev]
      exact r0
theorem same_key {a b : D} {x y : Key} (ha : keyD a = some x) (hb : keyD b = some y) (h : sameK b a = false) : y ≠ x := fun e => by
  have := sameK_key hb ha
  rw [h, e] at this
  simp at this
theorem put_new {kvs : List (Key × V)} {k : Key} {v : V} (h : ∀ p ∈ kvs, p.1 ≠ k) : putK kvs k v = kvs ++ [(k, v)] := by
  unfold putK
  rw [if_neg]
  intro hc
  obtain ⟨p, hp, e⟩ := List.any_eq_true.mp hc
  exact h p hp (of_decide_eq_true e)
theorem merge_all : ∀ {ks : List D} {ws : List Key} {us : List V} {acc : List (Key × V)}, ndK ks → ks.map keyD = ws.map some → ws.length = us.length → (∀ p ∈ acc, p.1 ∉ ws) → mergeK acc (ws.zip us) = acc ++ ws.zip us
  | [], [], _, acc, _, _, _, _ => by simp [mergeK]
  | [], _ :: _, _, _, _, h, _, _ => by simp at h
  | _ :: _, [], _, _, _, h, _, _ => by simp at h
  | d :: ks, w :: ws, [], acc, _, _, h, _ => by simp at h
  | d :: ks, w :: ws, u :: us, acc, hn, hk, hl, ha => by
    simp only [List.map_cons, List.cons.injEq] at hk
    rw [List.zip_cons_cons]
    show mergeK (putK acc w u) (ws.zip us) = _
    rw [put_new fun p hp e => ha p hp (by rw [e]; exact List.mem_cons_self)]
    rw [merge_all hn.2.2 hk.2 (by simpa using hl) fun p hp => ?_, List.append_assoc]
    · rfl
    · rcases List.mem_append.mp hp with hp | hp
      · exact fun m => ha p hp (List.mem_cons_of_mem _ m)
      · have e : p = (w, u) := by simpa using hp
        subst e
        intro m
        have hks : ∀ {ks : List D} {ws : List Key}, ks.map keyD = ws.map some → w ∈ ws → ∃ e ∈ ks, keyD e = some w := fun {ks ws} h m => by
          have : some w ∈ ws.map some := List.mem_map.mpr ⟨w, m, rfl⟩
          rw [← h] at this
          obtain ⟨e, he, hk⟩ := List.mem_map.mp this
          exact ⟨e, he, hk⟩
        obtain ⟨e, he, hke⟩ := hks hk.2 m
        have hs : sameK e d = false := by
          have := hn.2.1
          rw [List.any_eq_false] at this
          simpa using this e he
        exact same_key hk.1 hke hs rfl
theorem merge_nd {ks : List D} {ws : List Key} {us : List V} (h : ndK ks) (e : ks.map keyD = ws.map some) (hl : ws.length = us.length) : mergeK [] (ws.zip us) = ws.zip us := by
  rw [merge_all h e hl (fun p hp => by cases hp), List.nil_append]
theorem pe_dspD {Ks : List (Option Expr)} {Vs : List Expr} {ks : List D} {w : Loc → Sto → Res (List D)} (h : PPr X pos Ks Vs ks w) (hn : ndK ks) (hl : ks.length = Ks.length ∧ Ks.all (·.isSome) = true) (h0 : Ks ≠ []) (hv : Ks.length = Vs.length) (h15 : Ks.length ≤ 15) :
    PE X (.Dict Ks Vs pos) (up X.K X.mg z W fun ls S => (w ls S).nox.bd fun ds S1 => if ds.length = ks.length ∧ ks.length ≤ 15 then .ok (.dic ks ds) S1 else .bad) := by
  obtain ⟨trs, p1, p2⟩ := h.ex
  refine (pe_disp p1 hl.2 hv h0 h15).imp' fun σ H Q q => ?_
  obtain ⟨φ, S, ls, hh, g⟩ := q
  dsimp only at g
  cases e : w ls S with
  | bad => rw [e] at g; exact g.elim
  | exc _ _ _ => rw [e] at g; exact g.elim
  | ok ds S1 =>
    rw [e, Res.nox_ok, Res.bd_ok] at g
    by_cases hd : ds.length = ks.length ∧ ks.length ≤ 15
    · rw [if_pos hd] at g
      intro p hp
      have hB : ¬ z.B p := fun h => by obtain ⟨o, e⟩ := hh.w.bt p h; rw [hp] at e; cases e
      refine p2 ⟨φ, S, L2.upd H p (.dK []), orB z.B p⟩ σ (L2.upd H p (.dK [])) _ ⟨φ, S, ls, ds, S1, ⟨Stp.refl, wld_in hh.w hp, hh.l.step (kp_in Stp.refl hp)⟩, e, hd.1, fun φ' H' us ws st wd r hk hlen => ?_⟩
      have hnl : ¬ live φ S p := fun ⟨l, o, k1, _, _⟩ => hh.w.freshφ hp (List.mem_of_getElem? k1)
      have hHp : H' p = some (.dK []) := (st.keep p _ upd_same hnl).1
      have hlen2 := congrArg List.length hk
      simp only [List.length_map] at hlen2
      refine ⟨hHp, ws.zip us, rfl, by rw [List.length_zip]; omega, ?_⟩
      rw [merge_nd hn hk hlen]
      have st2 : Stp φ S H φ' S1 (cutH H' p) := by
        have := stp_cut (D := p) st
        rw [cut_none hp] at this
        exact this
      have wd2 := wld_out wd hB
      have r2 : Reps X.K φ' (LB φ' S1 z.B) (cutH H' p) ds us := r.keeps kp_out
      have eH : L2.upd H' p (.dK (ws.zip us)) = L2.upd (cutH H' p) p (.dK (ws.zip us)) := by
        funext a
        by_cases ha : a = p
        · subst ha; rw [upd_same, upd_same]
        · rw [upd_ne ha, upd_ne ha, cutH_ne ha]
      rw [eH]
      exact g φ' _ _ (st2.trans (Stp.upd cutH_same)) (wd2.upd cutH_same) (.dic ⟨upd_same, wd2.freshL cutH_same⟩ hk (r2.step (Stp.upd cutH_same)) hlen)
    · rw [if_neg hd] at g; exact g.elim
end
end Ev
/-! Ev16: the look that a compact text is that of the row; what it gives, expressions. -/
namespace Ev
open PySem PySem.Spec PyProof.Rows L2

/-- where the look stands -/
structure Kc where
  N : List Str
  sc : Scope
  rw : Scope
def Kc.lk (k : Kc) (x : Str) : Option NameKind := k.sc.names.lookup x
def Kc.gl (k : Kc) (x : Str) : Bool := decide (k.lk x = some .globalImplicit)
def Kc.vis (k : Kc) (x : Str) : Bool := match k.lk x with
  | some .local => true
  | some .cell => true
  | some .free => true
  | _ => false
/-- may be written -/
def Kc.wr (k : Kc) (x : Str) : Bool := match k.lk x with
  | some .local => true
  | some .cell => decide (k.rw.names.lookup x = some .cell)
  | _ => false
def dbg (x : Str) : Bool := !(x == ("__debug__" : Str)) && !(x == ("__classdict__" : Str))
def star : Expr → Bool
  | .Starred _ _ => true
  | _ => false
def stars (es : List Expr) : Bool := es.any star
def slic : Expr → Bool
  | .Slice _ _ _ _ => true
  | _ => false
def setB : Expr → Bool
  | .Set _ _ _ => true
  | _ => false
/-- an object before a method's name -/
def mobj : Expr → Bool
  | .Call (.Name x _) _ _ _ => !(x == ("super" : Str))
  | .Call (.Attribute _ _ _) _ _ _ => true
  | .Call _ _ _ _ => false
  | _ => true
def isNew : CE → Bool
  | .lst _ => true | .comp _ _ _ _ _ => true | .slc _ _ _ => true | .rev _ => true
  | .blt f _ => true
  | .bin _ _ _ => true
  | _ => false
def kwl : List Keyword → List String → List Expr → Bool
  | [], [], [] => true
  | ⟨some n, v, _⟩ :: kws, k :: ks, e :: es => decide (n = Str.ofString k) && kwl kws ks es
  | _, _, _ => false
def kwv (kws : List Keyword) : List Expr := kws.map (·.value)
def ownN (own : List Nat) (N : List Str) : List (Str × Nat) := own.map fun i => (N.getD i "", i)
def kindOf (sc : Scope) (x : Str) : Option NameKind := sc.names.lookup x
/-- BlkOk, looked at -/
def blkC (k : Kc) (scope : Scope) (own : List Nat) : Bool :=
  decide (scope.kind = ScopeKind.function) && (scope.names.all fun y => decide (scope.names.lookup y.1 = some y.2)) && (own.all fun i => decide (i < k.N.length)) &&
  (scope.names.all fun y => match y.2 with
    | .free => (match k.lk y.1 with
      | some .cell => true
      | some .free => true
      | _ => false)
    | .local => (own.any fun i => decide (k.N[i]? = some y.1)) || !(k.N.any fun n => decide (n = y.1))
    | .cell => (own.any fun i => decide (k.N[i]? = some y.1)) || !(k.N.any fun n => decide (n = y.1))
    | _ => true)
mutual
def chkT (k : Kc) : Tg → Expr → Bool
  | .one i, E => (match E with
    | .Name x _ => decide (k.N[i]? = some x) && k.wr x
    | _ => false)
  | .tup ts, E => (match E with
    | .Tuple es _ _ => chkTs k ts es
    | _ => false)
def chkTs (k : Kc) : Tgs → List Expr → Bool
  | .nil, [] => true
  | .cons t ts, E :: Es => !star E && chkT k t E && chkTs k ts Es
  | _, _ => false
end
/-- keys that are constants, no two alike -/
def keyC : List D → List (Option Expr) → Bool
  | [], [] => true
  | d :: ds, some (.Constant c _ _) :: es => isK d && conB d c && !(ds.any fun e => sameK e d) && keyC ds es
  | _, _ => false
def isOne : Operator → Operator → Bool := fun a b => decide (a = b)
mutual
def chkE (G : Glo) (k : Kc) : CE → Expr → Bool
  | .var i, E => (match E with
    | .Name x _ => decide (k.N[i]? = some x) && k.vis x && dbg x
    | _ => false)
  | .con d, E => (match E with
    | .Constant c _ _ => conB d c
    | _ => false)
  | .glb x, E => (match E with
    | .Name y _ => decide (y = Str.ofString x) && k.gl y && dbg y
    | _ => false)
  | .tup es, E => (match E with
    | .Tuple Es _ _ => !stars Es && chkL G k es Es
    | _ => false)
  | .lst es, E => (match E with
    | .List Es _ => !stars Es && chkL G k es Es
    | _ => false)
  | .dsp ks vs, E => (match E with
    | .Dict Ks Vs _ => !Ks.isEmpty && keyC ks Ks && chkL G k vs Vs && decide (Ks.length = Vs.length) && decide (Ks.length ≤ 15)
    | _ => false)
  | .live e, E => isNew e && chkE G k e E
  | .bin op a b, E => (match E with
    | .BinOp A op' B _ => decide (op = op') && chkE G k a A && chkE G k b B
    | _ => false)
  | .neg a, E => (match E with
    | .UnaryOp .USub A _ => chkE G k a A
    | _ => false)
  | .nt a, E => (match E with
    | .UnaryOp .Not A _ => chkE G k a A
    | _ => false)
  | .cmp op a b, E => (match E with
    | .Compare A [op'] [B] _ => decide (op = op') && !setB B && chkE G k a A && chkE G k b B
    | _ => false)
  | .chn o1 o2 a b c, E => (match E with
    | .Compare A [p1, p2] [B, C] _ => decide (o1 = p1) && decide (o2 = p2) && !setB C && chkE G k a A && chkE G k b B && chkE G k c C
    | _ => false)
  | .and es, E => (match E with
    | .BoolOp .And Es _ => chkL G k es Es
    | _ => false)
  | .or es, E => (match E with
    | .BoolOp .Or Es _ => chkL G k es Es
    | _ => false)
  | .ite c a b, E => (match E with
    | .IfExp C A B _ => chkE G k c C && chkE G k a A && chkE G k b B
    | _ => false)
  | .idx a b, E => (match E with
    | .Subscript A B _ => !slic B && chkE G k a A && chkE G k b B
    | _ => false)
  | .slc a lo hi, E => (match E with
    | .Subscript A (.Slice lo' hi' none _) _ => chkE G k a A && chkO G k lo lo' && chkO G k hi hi'
    | _ => false)
  | .rev a, E => (match E with
    | .Subscript A (.Slice none none (some (.UnaryOp .USub (.Constant (.int 1) _ _) _)) _) _ => chkE G k a A
    | _ => false)
  | .cal f es, E => (match E with
    | .Call (.Name x _) (A :: Es) [] _ => decide (x = Str.ofString f) && decide (f ∈ G.fns) && k.gl x && dbg x && !stars (A :: Es) && chkL G k es (A :: Es)
    | _ => false)
  | .calk f ks vs, E => (match E with
    | .Call (.Name x _) [] kws _ => decide (x = Str.ofString f) && decide (f ∈ G.fns) && k.gl x && dbg x && (G.kws f ks).isSome && kwl kws ks (kwv kws) && chkL G k vs (kwv kws)
    | _ => false)
  | .isi e T, E => (match E with
    | .Call (.Name x _) [A, .Name y _] [] _ => decide (x = ("isinstance" : Str)) && decide (y = Str.ofString T) && decide (T ∈ isiT) && k.gl x && k.gl y && !star A && chkE G k e A
    | _ => false)
  | .blt f es, E => (match E with
    | .Call (.Name x _) (A :: Es) [] _ => decide (x = bltX f) && k.gl x && !stars (A :: Es) && chkL G k es (A :: Es)
    | _ => false)
  | .mth m o es, E => (match E with
    | .Call (.Attribute O n ap) Es [] cp => decide (n = mtN m) && mtK m && mobj O && (ap.endLine == cp.line) && chkE G k o O && (match Es with
      | [] => (match m with
        | .pop => chkL G k es []
        | _ => false)
      | A :: Es => !stars (A :: Es) && decide ((A :: Es).length < 29) && chkL G k es (A :: Es))
    | _ => false)
  | .comp own tg it ifs elt, E => (match E with
    | .ListComp X [⟨T, I, ifs', a⟩] scope _ => decide (a = 0) && blkC k scope own && (tgIx tg).all (fun i => decide (i ∈ own)) && chkI G k it T I && chkT ⟨k.N, relS scope k.sc, scope⟩ tg T && chkE G ⟨k.N, relS scope k.sc, scope⟩ elt X && chkF G ⟨k.N, relS scope k.sc, scope⟩ ifs ifs'
    | _ => false)
  | .dcmp _ _ _ _ _ _, _ => false
  | .exf _ _, _ => false
  | .gix x e, E => (match E with
    | .Subscript (.Name y _) B _ => decide (y = Str.ofString x) && k.gl y && dbg y && (G.gdc x).isSome && !slic B && chkE G k e B
    | _ => false)
  | .gin x e, E => (match E with
    | .Compare A [.In] [.Name y _] _ => decide (y = Str.ofString x) && k.gl y && dbg y && (G.gdc x).isSome && chkE G k e A
    | _ => false)
  | .gni x e, E => (match E with
    | .Compare A [.NotIn] [.Name y _] _ => decide (y = Str.ofString x) && k.gl y && dbg y && (G.gdc x).isSome && chkE G k e A
    | _ => false)
  | .any, _ => true
def chkL (G : Glo) (k : Kc) : CL → List Expr → Bool
  | .nil, [] => true
  | .cons e es, E :: Es => chkE G k e E && chkL G k es Es
  | _, _ => false
def chkO (G : Glo) (k : Kc) : CO → Option Expr → Bool
  | .no, none => true
  | .so e, some E => chkE G k e E
  | _, _ => false
def chkF (G : Glo) (k : Kc) : CO → List Expr → Bool
  | .no, [] => true
  | .so c, [C] => chkE G k c C
  | _, _ => false
def chkI (G : Glo) (k : Kc) : CI → Expr → Expr → Bool
  | .seq e, T, E => !setB E && chkE G k e E
  | .rng1 a, T, E => (match E with
    | .Call (.Name x _) [A] [] _ => decide (x = ("range" : Str)) && k.gl x && !star A && chkE G k a A
    | _ => false)
  | .rng2 a b, T, E => (match E with
    | .Call (.Name x _) [A, B] [] _ => decide (x = ("range" : Str)) && k.gl x && !star A && !star B && chkE G k a A && chkE G k b B
    | _ => false)
  | .rng3 _ _ _, _, _ => false
  | .enu e, T, E => (match E with
    | .Call (.Name x _) [A] [] _ => (match T with
      | .Tuple _ _ _ => decide (x = ("enumerate" : Str)) && k.gl x && !star A && chkE G k e A
      | _ => false)
    | _ => false)
  | .zip _ _, _, _ => false
  | .rvs _, _, _ => false
end
end Ev
/-! Ev17: what passes the look gives what it says: expressions. -/
namespace Ev
open PySem PySem.Spec PyProof.Rows L2

/-- a body, or a comprehension's block -/
structure Xk (X : Cx) (G : Glo) (cal : String → List D → Sto → Res D) (k : Kc) (n : Nat) (W : WX) : Prop where
  hn : X.N = k.N
  nd : k.N.Nodup
  hs : X.env.scope = k.sc
  fn : ∀ x, k.rw.names.lookup x = some .cell → X.fn x = true
  kd : k.sc.kind = ScopeKind.function
  calm : X.calm = true
  room : Room n X.A
  env : EnvOk X.prog X.w X.K X.mg X.base G cal n
  tk : Takes X W
section
variable {G : Glo} {cal : String → List D → Sto → Res D} {n : Nat} {X : Cx} {k : Kc} {W : WX} {z : W0} {E : Expr} {pos : Pos}
theorem Xk.un (x : Xk X G cal k n W) : X.A.units + 200 < cLine := by have := x.room.un; omega
theorem Xk.gl (x : Xk X G cal k n W) {y : Str} (h : k.gl y = true) : Gl X y := by
  have h' := of_decide_eq_true h
  show X.env.scope.names.lookup y = _
  rw [x.hs]; exact h'
theorem Xk.vis (x : Xk X G cal k n W) {y : Str} (h : k.vis y = true) : Vis X.env.scope y := by
  unfold Kc.vis Kc.lk at h
  unfold Vis
  rw [x.hs]
  split at h <;> first | (rename_i e; first | exact .inl e | exact .inr (.inl e) | exact .inr (.inr e)) | cases h
theorem Xk.at_ (x : Xk X G cal k n W) {y : Str} {i : Nat} (h : k.N[i]? = some y) : X.N[i]? = some y := by rw [x.hn]; exact h
theorem Xk.wr (x : Xk X G cal k n W) {y : Str} (h : k.wr y = true) : L2.Loc X.env.scope y ∧ (X.fn y = true ∨ X.env.scope.names.lookup y = some .local) := by
  unfold Kc.wr Kc.lk at h
  unfold L2.Loc
  rw [x.hs]
  split at h
  · rename_i e; exact ⟨.inl e, .inr e⟩
  · rename_i e; exact ⟨.inr e, .inl (x.fn y (of_decide_eq_true h))⟩
  · cases h
theorem dbg_h {x : Str} (h : dbg x = true) : (x == ("__debug__" : Str)) = false ∧ (x == ("__classdict__" : Str)) = false := by
  unfold dbg at h
  simpa using h
theorem star_each {e : Expr} (h : star e = false) (es : List Expr) (env : Env) : starEach (e :: es) env = (false, eval e env) :: starEach es env := by
  cases e <;> first | rfl | (simp [star] at h)
theorem stars_no : ∀ {es : List Expr}, stars es = false → ∀ (pos : Pos) (env : Env), (backTo pos (starEach es env)).any (·.1) = false
  | [], _, _, _ => rfl
  | e :: es, h, pos, env => by
    unfold stars at h
    rw [List.any_cons, Bool.or_eq_false_iff] at h
    rw [star_each h.1]
    show (false || (backTo pos (starEach es env)).any (·.1)) = false
    rw [stars_no h.2]; rfl
theorem stars_all : ∀ {es : List Expr}, stars es = false → ∀ (pos : Pos) (env : Env), (backTo pos (starEach es env)).all (fun x => !x.1) = true
  | [], _, _, _ => rfl
  | e :: es, h, pos, env => by
    unfold stars at h
    rw [List.any_cons, Bool.or_eq_false_iff] at h
    rw [star_each h.1]
    show (true && (backTo pos (starEach es env)).all (fun x => !x.1)) = true
    rw [stars_all h.2]; rfl
theorem base_h {o : Expr} (h : mobj o = true) (nm : Str) (env : Env) : attributeBase o nm env (eval o env) = eval o env := by
  unfold attributeBase
  split
  · rename_i id p1 p2
    have hid : (id == ("super" : Str)) = false := by simpa [mobj] using h
    have h2 : (id != "super") = true := by
      show (!(id == ("super" : Str))) = true
      rw [hid]; rfl
    simp only [h2, Bool.true_or, if_true]
  · rfl
theorem plain_ix {b : Expr} (h : slic b = false) : PlainIx b := by
  intro o i
  cases b <;> first | rfl | (simp [slic] at h)
theorem mark_no {op : CmpOp} {b : Expr} (h : setB b = false) : behindInMarks op b = false := by
  cases b <;> first | rfl | (simp [setB] at h)
theorem fold_no {b : Expr} (h : setB b = false) (env : Env) : ∀ x, foldedSetIterable b env x = pure x := by
  intro x
  cases b <;> first | rfl | (simp [setB] at h)
structure Good (X : Cx) (G : Glo) (cal : String → List D → Sto → Res D) (W : WX) (z : W0) (c : CE) (E : Expr) : Prop where
  pe : PE X E (up X.K X.mg z W fun ls S => ev (G.cx cal) c false ls S)
  pt : PT X E (upT X.K X.mg z W fun ls S => ev (G.cx cal) c true ls S)
  nw : isNew c = true → PE X E (upN X.K X.mg z W fun ls S => ev (G.cx cal) c false ls S)
theorem good_fin {c : CE} {f : Loc → Sto → Res D} (hf : ∀ t ls S, ev (G.cx cal) c t ls S = fin t (f ls S)) (he : ∀ whole, isTrue E X.env whole = (do let v ← whole; standAt E.pos; holding [v] (truthy v)))
    (hp : PE X E (up X.K X.mg z W f)) (hn : isNew c = true → PE X E (upN X.K X.mg z W f)) : Good X G cal W z c E := by
  have e1 : (fun ls S => ev (G.cx cal) c false ls S) = f := by funext ls S; rw [hf, fin_f]
  have e2 : (fun ls S => ev (G.cx cal) c true ls S) = fun ls S => fin true (f ls S) := by funext ls S; rw [hf]
  refine ⟨?_, ?_, ?_⟩
  · rw [e1]; exact hp
  · rw [e2]; exact pt_finD hp he
  · rw [e1]; exact hn
/-- a new one is one -/
theorem good_new {c : CE} {f : Loc → Sto → Res D} (hf : ∀ t ls S, ev (G.cx cal) c t ls S = fin t (f ls S)) (he : ∀ whole, isTrue E X.env whole = (do let v ← whole; standAt E.pos; holding [v] (truthy v)))
    (hp : PE X E (upN X.K X.mg z W f)) : Good X G cal W z c E := good_fin hf he hp.old fun _ => hp
theorem good_both {c : CE} {f g : Loc → Sto → Res D} (hf : ∀ ls S, ev (G.cx cal) c false ls S = f ls S) (hg : ∀ ls S, ev (G.cx cal) c true ls S = g ls S) (hp : PE X E (up X.K X.mg z W f)) (ht : PT X E (upT X.K X.mg z W g)) (hn : isNew c = false) : Good X G cal W z c E := by
  have e1 : (fun ls S => ev (G.cx cal) c false ls S) = f := by funext ls S; rw [hf]
  have e2 : (fun ls S => ev (G.cx cal) c true ls S) = g := by funext ls S; rw [hg]
  refine ⟨by rw [e1]; exact hp, by rw [e2]; exact ht, fun h => by rw [hn] at h; cases h⟩
theorem pe_bad : PE X E (up X.K X.mg z W fun _ _ => .bad) := ⟨fun pins s σ H Q I h => by obtain ⟨φ, S, ls, h, g⟩ := h; exact g.elim⟩
theorem pt_bad : PT X E (upT X.K X.mg z W fun _ _ => .bad) := ⟨fun pins s σ H Q I h => by obtain ⟨φ, S, ls, h, g⟩ := h; exact g.elim⟩
theorem pw_bad : PW X E (upT X.K X.mg z W fun _ _ => .bad) := ⟨fun wh pins s σ H Q I h => by obtain ⟨φ, S, ls, h, g⟩ := h; exact g.elim⟩
theorem pe_chainD {a b c : Expr} {o1 o2 : CmpOp} {ta tb tc : Loc → Sto → Res D} (hu : X.A.units + 200 < cLine) (ha : PE X a (up X.K X.mg z W ta)) (hb : PE X b (up X.K X.mg z W tb)) (hc : PE X c (up X.K X.mg z W tc)) (hm : lastMarks [o1, o2] [b, c] = false) :
    PE X (.Compare a [o1, o2] [b, c] pos) (up X.K X.mg z W fun ls S => (ta ls S).bd fun x S1 => (tb ls S1).bd fun y S2 => match cmpD o1 S2 x y with
      | some (.bl true) => (tc ls S2).bd fun zz S3 => ofO S3 (cmpD o2 S3 y zz)
      | some (.bl false) => .ok (.bl false) S2
      | _ => .bad) := (pe_chain (op_cmpD hu o1) (op_cmpD hu o2) ha hb hc hm).imp' fun σ H Q h => chain_up h
theorem pt_chainD {a b c : Expr} {o1 o2 : CmpOp} {ta tb tc : Loc → Sto → Res D} (hu : X.A.units + 200 < cLine) (ha : PE X a (up X.K X.mg z W ta)) (hb : PE X b (up X.K X.mg z W tb)) (hc : PE X c (up X.K X.mg z W tc)) (hm : lastMarks [o1, o2] [b, c] = false) :
    PT X (.Compare a [o1, o2] [b, c] pos) (upT X.K X.mg z W fun ls S => (ta ls S).bd fun x S1 => (tb ls S1).bd fun y S2 => match cmpD o1 S2 x y with
      | some (.bl true) => (tc ls S2).bd fun zz S3 => ofO S3 (cmpD o2 S3 y zz)
      | some (.bl false) => .ok (.bl false) S2
      | _ => .bad) := (pt_chain (op_cmpD hu o1) (op_cmpD hu o2) ha hb hc hm).imp' fun σ H Q h => chain_up (upT_up h)
theorem Xk.fd (x : Xk X G cal k n W) {f : String} (h : f ∈ G.fns) : FD X n (Str.ofString f) (cal f) := by
  obtain ⟨fa, fd, ps, h1, h2, h3, h4, h5⟩ := x.env.fn f h
  exact ⟨fa, fd, ps, h1, h2, h3, h4⟩
theorem Xk.fk (x : Xk X G cal k n W) {f : String} (h : f ∈ G.fns) {ks : List String} {ix : List Nat} (hk : G.kws f ks = some ix) : FK X n (Str.ofString f) (ks.map Str.ofString) ix (cal f) := by
  obtain ⟨fa, fd, ps, h1, h2, h3, h4, h5⟩ := x.env.fn f h
  exact ⟨fa, fd, ps, h1, h2, h4, fun s ws rs hr hl => h5 ks ix hk s ws rs hr (by simpa using hl)⟩
theorem Xk.kd_ (x : Xk X G cal k n W) {y : String} {ks vs : List D} (h : G.gdc y = some (ks, vs)) : KD X (Str.ofString y) ks vs := by
  obtain ⟨_, d, es, m, h1, h2, h3⟩ := x.env.gd y ks vs h
  exact ⟨d, es, m, h1, h2, h3⟩
theorem kw_each : ∀ {kws : List Keyword} {ks : List String} {es : List Expr}, kwl kws ks es = true → ∀ (pos : Pos) (env : Env),
    (backToKw pos (keywordEach kws env)).all (·.1.isSome) = true ∧ (backToKw pos (keywordEach kws env)).filterMap (·.1) = ks.map Str.ofString ∧ (backToKw pos (keywordEach kws env)).any (·.1.isNone) = false
  | [], [], [], _, _, _ => ⟨rfl, rfl, rfl⟩
  | ⟨some nm, v, p⟩ :: kws, kk :: ks, e :: es, h, pos, env => by
    simp only [kwl, Bool.and_eq_true, decide_eq_true_eq] at h
    obtain ⟨h1, h2, h3⟩ := kw_each h.2 pos env
    refine ⟨?_, ?_, ?_⟩
    · show (true && _) = true
      rw [Bool.true_and]; exact h1
    · show nm :: (backToKw pos (keywordEach kws env)).filterMap (·.1) = _
      rw [h2, h.1]; rfl
    · show (false || _) = false
      rw [Bool.false_or]; exact h3
  | ⟨none, v, p⟩ :: kws, kk :: ks, e :: es, h, _, _ => by simp [kwl] at h
  | [], _ :: _, _, h, _, _ => by simp [kwl] at h
  | [], [], _ :: _, h, _, _ => by simp [kwl] at h
  | ⟨_, _, _⟩ :: _, [], _, h, _, _ => by simp [kwl] at h
  | ⟨_, _, _⟩ :: _, _ :: _, [], h, _, _ => by simp [kwl] at h
end
end Ev
/-! Ev18: the theorem of expressions. -/
namespace Ev
open PySem PySem.Spec PyProof.Rows L2

section
variable {G : Glo} {cal : String → List D → Sto → Res D} {n : Nat}
mutual
theorem okT : ∀ (t : Tg) {X : Cx} {k : Kc} {W : WX} {E : Expr}, Xk X G cal k n W → chkT k t E = true → ∀ z : W0, PG X E (upG X.K z (tgIx t) (asg t))
  | .one i, X, k, W, E, x, h, z => by
    simp only [chkT] at h
    split at h
    · simp only [Bool.and_eq_true, decide_eq_true_eq] at h
      obtain ⟨h1, h2⟩ := x.wr h.2
      exact pg_nameD (by rw [x.hn]; exact x.nd) (x.at_ h.1) h1 h2
    · cases h
  | .tup ts, X, k, W, E, x, h, z => by
    simp only [chkT] at h
    split at h
    · obtain ⟨h1, h2, h3⟩ := okTs ts x h z
      exact pg_tupD x.calm h1 (fun ds ls ls' e => asgs_len e) h2 h3
    · cases h
theorem okTs : ∀ (ts : Tgs) {X : Cx} {k : Kc} {W : WX} {Es : List Expr}, Xk X G cal k n W → chkTs k ts Es = true → ∀ z : W0, PGs X Es (upGs X.K z (tgsIx ts) (asgs ts)) ∧ (assignEach Es X.env).length = tsN ts ∧ (assignEach Es X.env).findIdx? (·.1) = none
  | .nil, X, k, W, [], x, h, z => by
    refine ⟨PGs.imp' (pgs_nilD (z := z)) fun v σ H Q h => ?_, rfl, rfl⟩
    obtain ⟨φ, S, ls, ds, ls', a, b, c, q⟩ := h
    refine ⟨φ, S, ls, ds, ls', a, b, ?_, q⟩
    cases ds with
    | nil => simpa [asgs] using c
    | cons _ _ => simp [asgs] at c
  | .nil, X, k, W, _ :: _, x, h, z => by simp [chkTs] at h
  | .cons _ _, X, k, W, [], x, h, z => by simp [chkTs] at h
  | .cons t ts, X, k, W, E :: Es, x, h, z => by
    simp only [chkTs, Bool.and_eq_true, Bool.not_eq_true'] at h
    obtain ⟨⟨h1, h2⟩, h3⟩ := h
    have p1 := okT t x h2 z
    obtain ⟨p2, p3, p4⟩ := okTs ts x h3 z
    have he : assignEach (E :: Es) X.env = (false, assign E X.env) :: assignEach Es X.env := by
      cases E <;> first | rfl | (simp [star] at h1)
    refine ⟨PGs.imp' (pgs_consD (z := z) p1 p2 (by rw [he]; rfl)) fun v σ H Q h => ?_, by rw [he, List.length_cons, p3]; rfl, by rw [he, List.findIdx?_cons]; simp [p4]⟩
    obtain ⟨φ, S, ls, ds, ls', a, b, c, q⟩ := h
    refine ⟨φ, S, ls, ds, ls', a, b, ?_, q⟩
    cases ds with
    | nil => simp [asgs] at c
    | cons _ _ => simpa [asgs] using c
end
theorem blk_ok {X : Cx} {k : Kc} {W : WX} {scope : Scope} {own : List Nat} (x : Xk X G cal k n W) (h : blkC k scope own = true) : BlkOk X.N X.env.scope scope (ownN own k.N) ∧ (ownN own k.N).map (·.2) = own := by
  unfold blkC at h
  simp only [Bool.and_eq_true, decide_eq_true_eq, List.all_eq_true] at h
  obtain ⟨⟨⟨h1, h2⟩, h3⟩, h4⟩ := h
  have hm : (ownN own k.N).map (·.2) = own := by
    unfold ownN
    rw [List.map_map]
    exact List.map_id' own
  have hown : ∀ y, (own.any fun i => decide (k.N[i]? = some y)) = true → y ∈ (ownN own k.N).map (·.1) := fun y hy => by
    obtain ⟨i, hi, e⟩ := List.any_eq_true.mp hy
    have e' := of_decide_eq_true e
    refine List.mem_map.mpr ⟨(y, i), List.mem_map.mpr ⟨i, hi, ?_⟩, rfl⟩
    rw [List.getD_eq_getElem?_getD, e']; rfl
  refine ⟨⟨h1, fun y hy => h2 y hy, fun p hp => ?_, fun y hy e => ?_, fun y hy e => ?_⟩, hm⟩
  · obtain ⟨i, hi, rfl⟩ := List.mem_map.mp hp
    have hl := h3 i hi
    rw [x.hn]
    show k.N[i]? = some (k.N.getD i "")
    rw [List.getD_eq_getElem?_getD, List.getElem?_eq_getElem hl]; rfl
  · have q := h4 y hy
    rw [e] at q
    dsimp only at q
    rw [x.hs]
    unfold Kc.lk at q
    split at q
    · rename_i e; exact .inl e
    · rename_i e; exact .inr e
    · cases q
  · have q := h4 y hy
    rw [x.hn]
    have q' : ((own.any fun i => decide (k.N[i]? = some y.1)) || !(k.N.any fun n => decide (n = y.1))) = true := by
      rcases e with e | e <;> (rw [e] at q; exact q)
    rcases Bool.or_eq_true_iff.mp q' with q' | q'
    · exact .inl (hown _ q')
    · refine .inr fun hm => ?_
      have : (k.N.any fun n => decide (n = y.1)) = true := List.any_eq_true.mpr ⟨y.1, hm, decide_eq_true rfl⟩
      rw [this] at q'; cases q'
theorem blk_k {X : Cx} {k : Kc} {W : WX} {scope : Scope} {own : List Nat} (x : Xk X G cal k n W) (h : blkC k scope own = true) (s : Shared) (H : Hp) (C : Addr) (cl : List (Str × Addr)) (fp : List Addr) :
    Xk (X.blk s H scope (compEnvC scope cl C X.env) fp) G cal ⟨k.N, relS scope k.sc, scope⟩ n noW := by
  refine ⟨x.hn, x.nd, ?_, fun y hy => ?_, ?_, x.calm, x.room, x.env, ?_⟩
  · show relS scope X.env.scope = relS scope k.sc
    rw [x.hs]
  · show (scope.names.lookup y == some .cell) = true
    rw [show scope.names.lookup y = some NameKind.cell from hy]; rfl
  · unfold blkC at h
    simp only [Bool.and_eq_true, decide_eq_true_eq] at h
    exact h.1.1.1
  · rintro u s' ⟨a, B, sI, pins, σ, H, cls, d, e, I, nb, up, sky, na, os, ag, w⟩
    exact w.elim

def clN : CL → Nat
  | .nil => 0
  | .cons _ es => clN es + 1
theorem evs_len (cx : Cxt) : ∀ (es : CL) {ls : Loc} {S S' : Sto} {ds : List D}, evs cx es ls S = .ok ds S' → ds.length = clN es
  | .nil, ls, S, S', ds, e => by rw [evs] at e; cases e; rfl
  | .cons c es, ls, S, S', ds, e => by
    rw [evs] at e
    cases e1 : ev cx c false ls S with
    | bad => rw [e1] at e; cases e
    | exc _ _ _ => rw [e1] at e; cases e
    | ok d S1 =>
      rw [e1, Res.bd_ok] at e
      cases e2 : evs cx es ls S1 with
      | bad => rw [e2] at e; cases e
      | exc _ _ _ => rw [e2] at e; cases e
      | ok ds' S2 =>
        rw [e2, Res.bd_ok] at e
        cases e
        rw [List.length_cons, evs_len cx es e2, clN]
theorem chkL_len {G : Glo} {k : Kc} : ∀ {es : CL} {Es : List Expr}, chkL G k es Es = true → Es.length = clN es
  | .nil, [], _ => rfl
  | .nil, _ :: _, h => by simp [chkL] at h
  | .cons _ _, [], h => by simp [chkL] at h
  | .cons c es, E :: Es, h => by
    simp only [chkL, Bool.and_eq_true] at h
    rw [List.length_cons, chkL_len h.2, clN]
theorem kwl_len : ∀ {kws : List Keyword} {ks : List String} {es : List Expr}, kwl kws ks es = true → ks.length = es.length
  | [], [], [], _ => rfl
  | ⟨some nm, v, p⟩ :: kws, kk :: ks, e :: es, h => by
    simp only [kwl, Bool.and_eq_true] at h
    rw [List.length_cons, List.length_cons, kwl_len h.2]
  | ⟨none, v, p⟩ :: kws, kk :: ks, e :: es, h => by simp [kwl] at h
  | [], _ :: _, _, h => by simp [kwl] at h
  | [], [], _ :: _, h => by simp [kwl] at h
  | ⟨_, _, _⟩ :: _, [], _, h => by simp [kwl] at h
  | ⟨_, _, _⟩ :: _, _ :: _, [], h => by simp [kwl] at h
theorem new_true {G : Glo} {k : Kc} {e : CE} {E : Expr} {env : Env} (h : isNew e = true) (h2 : chkE G k e E = true) : ∀ whole, isTrue E env whole = (do let v ← whole; standAt E.pos; holding [v] (truthy v)) := by
  cases e with
  | lst es => simp only [chkE] at h2; split at h2 <;> first | exact fun _ => rfl | cases h2
  | comp a b c d f => simp only [chkE] at h2; split at h2 <;> first | exact fun _ => rfl | cases h2
  | slc a b c => simp only [chkE] at h2; split at h2 <;> first | exact fun _ => rfl | cases h2
  | rev a => simp only [chkE] at h2; split at h2 <;> first | exact fun _ => rfl | cases h2
  | blt f es => simp only [chkE] at h2; split at h2 <;> first | exact fun _ => rfl | cases h2
  | bin op a b => simp only [chkE] at h2; split at h2 <;> first | exact fun _ => rfl | cases h2
  | _ => cases h
theorem chkI_fold {G : Glo} {k : Kc} {it : CI} {T E : Expr} (h : chkI G k it T E = true) (env : Env) : ∀ y, foldedSetIterable E env y = pure y := by
  cases it with
  | seq e => simp only [chkI, Bool.and_eq_true, Bool.not_eq_true'] at h; exact fold_no h.1 env
  | rng1 a => simp only [chkI] at h; split at h <;> first | exact fun _ => rfl | cases h
  | rng2 a b => simp only [chkI] at h; split at h <;> first | exact fun _ => rfl | cases h
  | enu e => simp only [chkI] at h; split at h <;> first | exact fun _ => rfl | cases h
  | _ => simp [chkI] at h
theorem chkF_no {G : Glo} {k : Kc} {Es : List Expr} (h : chkF G k .no Es = true) : Es = [] := by
  cases Es with
  | nil => rfl
  | cons _ _ => simp [chkF] at h
theorem chkF_so {G : Glo} {k : Kc} {c : CE} {Es : List Expr} (h : chkF G k (.so c) Es = true) : ∃ C, Es = [C] ∧ chkE G k c C = true := by
  cases Es with
  | nil => simp [chkF] at h
  | cons C r => cases r with
    | nil => exact ⟨C, rfl, by simpa [chkF] using h⟩
    | cons _ _ => simp [chkF] at h
theorem Xk.nox {X : Cx} {k : Kc} {W : WX} (x : Xk X G cal k n W) : Xk X G cal k n noW :=
  ⟨x.hn, x.nd, x.hs, x.fn, x.kd, x.calm, x.room, x.env, fun u s' ⟨a, B, sI, pins, σ, H, cls, d, e, I, nb, up, sky, na, os, ag, w⟩ => w.elim⟩
theorem keyC_len : ∀ {ks : List D} {Ks : List (Option Expr)}, keyC ks Ks = true → ks.length = Ks.length ∧ Ks.all (·.isSome) = true
  | [], [], _ => ⟨rfl, rfl⟩
  | [], _ :: _, h => by simp [keyC] at h
  | _ :: _, [], h => by simp [keyC] at h
  | d :: ds, K0 :: Ks, h => by
    unfold keyC at h
    split at h
    · contradiction
    · rename_i h0 h0'
      cases h0; cases h0'
      simp only [Bool.and_eq_true] at h
      obtain ⟨a, b⟩ := keyC_len h.2
      exact ⟨by rw [List.length_cons, List.length_cons, a], by rw [List.all_cons, b]; rfl⟩
    · cases h
theorem keyC_inv {ks : List D} {K0 : Option Expr} {Ks : List (Option Expr)} (h : keyC ks (K0 :: Ks) = true) : ∃ d ds c j p, ks = d :: ds ∧ K0 = some (.Constant c j p) ∧ isK d = true ∧ conB d c = true ∧ keyC ds Ks = true := by
  cases ks with
  | nil => simp [keyC] at h
  | cons d ds =>
    unfold keyC at h
    split at h
    · contradiction
    · rename_i h0 h0'
      cases h0; cases h0'
      simp only [Bool.and_eq_true] at h
      exact ⟨_, _, _, _, _, rfl, rfl, h.1.1.1, h.1.1.2, h.2⟩
    · cases h
theorem keyC_nd : ∀ {ks : List D} {Ks : List (Option Expr)}, keyC ks Ks = true → ndK ks
  | [], [], _ => trivial
  | [], _ :: _, h => by simp [keyC] at h
  | _ :: _, [], h => by simp [keyC] at h
  | d :: ds, K0 :: Ks, h => by
    unfold keyC at h
    split at h
    · contradiction
    · rename_i h0 h0'
      cases h0; cases h0'
      simp only [Bool.and_eq_true, Bool.not_eq_true'] at h
      exact ⟨h.1.1.1, h.1.2, keyC_nd h.2⟩
    · cases h
/-- a test that may be anything: from PE -/
theorem pw_of {X : Cx} {W : WX} {E : Expr} {z : W0} {w : Loc → Sto → Res D} (h : PT X E (upT X.K X.mg z W w)) : PT X E (upT X.K X.mg z W w) := h
mutual
theorem okE : ∀ (c : CE) {X : Cx} {k : Kc} {W : WX} {E : Expr}, Xk X G cal k n W → chkE G k c E = true → ∀ z : W0, Good X G cal W z c E
  | .var i, X, k, W, E, x, h, z => by
    simp only [chkE] at h
    split at h
    · simp only [Bool.and_eq_true, decide_eq_true_eq] at h
      obtain ⟨h1, h2⟩ := dbg_h h.2
      exact good_fin (fun t ls S => by rw [ev] <;> rfl) (fun _ => rfl) (pe_varD (x.at_ h.1.1) (x.vis h.1.2) h1 h2) (fun h => by cases h)
    · cases h
  | .con d, X, k, W, E, x, h, z => by
    simp only [chkE] at h
    split at h
    · exact good_fin (fun t ls S => by rw [ev] <;> rfl) (fun _ => rfl) (pe_conD h) (fun h => by cases h)
    · cases h
  | .glb y, X, k, W, E, x, h, z => by
    simp only [chkE] at h
    split at h
    · simp only [Bool.and_eq_true, decide_eq_true_eq] at h
      obtain ⟨⟨rfl, h2⟩, h3⟩ := h
      exact good_fin (fun t ls S => by rw [ev] <;> rfl) (fun _ => rfl) (pe_glbD (x.gl h2) (dbg_h h3).1 fun d e => x.env.gl y d e) (fun h => by cases h)
    · cases h
  | .tup es, X, k, W, E, x, h, z => by
    simp only [chkE] at h
    split at h
    · simp only [Bool.and_eq_true, Bool.not_eq_true'] at h
      exact good_fin (fun t ls S => by rw [ev] <;> rfl) (fun _ => rfl) (pe_tupD (okL es x h.1 h.2 z)) (fun h => by cases h)
    · cases h
  | .lst es, X, k, W, E, x, h, z => by
    simp only [chkE] at h
    split at h
    · simp only [Bool.and_eq_true, Bool.not_eq_true'] at h
      exact good_new (fun t ls S => by rw [ev] <;> rfl) (fun _ => rfl) (pe_lstD (okL es x h.1 h.2 z))
    · cases h
  | .dsp ks vs, X, k, W, E, x, h, z => by
    simp only [chkE] at h
    split at h
    · simp only [Bool.and_eq_true, decide_eq_true_eq, Bool.not_eq_true'] at h
      obtain ⟨⟨⟨⟨h1, h2⟩, h3⟩, h4⟩, h5⟩ := h
      exact good_fin (fun t ls S => by rw [ev] <;> rfl) (fun _ => rfl) (pe_dspD (okD ks vs x.nox h2 h3 h4) (keyC_nd h2) (keyC_len h2) (fun e => by rw [e] at h1; cases h1) h4 h5) (fun h => by cases h)
    · cases h
  | .live e, X, k, W, E, x, h, z => by
    simp only [chkE, Bool.and_eq_true] at h
    have g := okE e x h.2 z
    have p := (g.nw h.1).live
    exact good_fin (fun t ls S => by rw [ev] <;> rfl) (new_true h.1 h.2) p (fun h => by cases h)
  | .bin op a b, X, k, W, E, x, h, z => by
    simp only [chkE] at h
    split at h
    · simp only [Bool.and_eq_true, decide_eq_true_eq] at h
      obtain ⟨⟨rfl, h1⟩, h2⟩ := h
      exact good_new (fun t ls S => by rw [ev] <;> rfl) (fun _ => rfl) ((pe_op (op_binD op) (okE a x h1 z).pe (okE b x h2 z).pe).imp' fun σ H Q h => tOp_upN h)
    · cases h
  | .neg a, X, k, W, E, x, h, z => by
    simp only [chkE] at h
    split at h
    · exact good_fin (fun t ls S => by rw [ev] <;> rfl) (fun _ => rfl) (pe_negD (okE a x h z).pe) (fun h => by cases h)
    · cases h
  | .nt a, X, k, W, E, x, h, z => by
    simp only [chkE] at h
    split at h
    · exact good_both (fun ls S => by rw [ev] <;> rfl) (fun ls S => by rw [ev] <;> rfl) (pe_ntD (okE a x h z).pe) (pt_ntD (okE a x h z).pt) rfl
    · cases h
  | .cmp op a b, X, k, W, E, x, h, z => by
    simp only [chkE] at h
    split at h
    · simp only [Bool.and_eq_true, decide_eq_true_eq, Bool.not_eq_true'] at h
      obtain ⟨⟨⟨rfl, h0⟩, h1⟩, h2⟩ := h
      exact good_both (fun ls S => by rw [ev] <;> rfl) (fun ls S => by rw [ev] <;> rfl) (pe_cmpD x.un (okE a x h1 z).pe (okE b x h2 z).pe (mark_no h0)) (pt_cmpD x.un (okE a x h1 z).pe (okE b x h2 z).pe (mark_no h0)) rfl
    · cases h
  | .chn o1 o2 a b c, X, k, W, E, x, h, z => by
    simp only [chkE] at h
    split at h
    · simp only [Bool.and_eq_true, decide_eq_true_eq, Bool.not_eq_true'] at h
      obtain ⟨⟨⟨⟨⟨rfl, rfl⟩, h0⟩, h1⟩, h2⟩, h3⟩ := h
      exact good_both (fun ls S => by rw [ev] <;> rfl) (fun ls S => by rw [ev] <;> rfl) (pe_chainD x.un (okE a x h1 z).pe (okE b x h2 z).pe (okE c x h3 z).pe (mark_no h0)) (pt_chainD x.un (okE a x h1 z).pe (okE b x h2 z).pe (okE c x h3 z).pe (mark_no h0)) rfl
    · cases h
  | .and es, X, k, W, E, x, h, z => by
    simp only [chkE] at h
    split at h
    · obtain ⟨h1, h2⟩ := okA es x h z
      exact good_both (fun ls S => by rw [ev] <;> rfl) (fun ls S => by rw [ev] <;> rfl) h1 h2.pt rfl
    · cases h
  | .or es, X, k, W, E, x, h, z => by
    simp only [chkE] at h
    split at h
    · obtain ⟨h1, h2⟩ := okO es x h z
      exact good_both (fun ls S => by rw [ev] <;> rfl) (fun ls S => by rw [ev] <;> rfl) h1 h2.pt rfl
    · cases h
  | .ite c a b, X, k, W, E, x, h, z => by
    simp only [chkE] at h
    split at h
    · simp only [Bool.and_eq_true] at h
      have g0 := okE c x h.1.1 z
      have g1 := okE a x h.1.2 z
      have g2 := okE b x h.2 z
      exact good_both (fun ls S => by rw [ev] <;> rfl) (fun ls S => by rw [ev] <;> rfl) (pe_iteD g0.pt g1.pe g2.pe) (pt_iteD g0.pt g1.pt g2.pt) rfl
    · cases h
  | .idx a b, X, k, W, E, x, h, z => by
    simp only [chkE] at h
    split at h
    · simp only [Bool.and_eq_true, Bool.not_eq_true'] at h
      exact good_fin (fun t ls S => by rw [ev] <;> rfl) (fun _ => rfl) (pe_idxD x.un (okE a x h.1.2 z).pe (okE b x h.2 z).pe (plain_ix h.1.1)) (fun h => by cases h)
    · cases h
  | .slc a lo hi, X, k, W, E, x, h, z => by
    simp only [chkE] at h
    split at h
    · simp only [Bool.and_eq_true] at h
      exact good_new (fun t ls S => by rw [ev] <;> rfl) (fun _ => rfl) (pe_slcD (okE a x h.1.1 z).pe (okP lo x h.1.2 z) (okP hi x h.2 z))
    · cases h
  | .rev a, X, k, W, E, x, h, z => by
    simp only [chkE] at h
    split at h
    · exact good_new (fun t ls S => by rw [ev] <;> rfl) (fun _ => rfl) (pe_revD (okE a x h z).pe)
    · cases h
  | .cal f es, X, k, W, E, x, h, z => by
    simp only [chkE] at h
    split at h
    · simp only [Bool.and_eq_true, decide_eq_true_eq, Bool.not_eq_true'] at h
      obtain ⟨⟨⟨⟨⟨rfl, h1⟩, h2⟩, h3⟩, h4⟩, h5⟩ := h
      have hs := h4
      unfold stars at hs
      rw [List.any_cons, Bool.or_eq_false_iff] at hs
      exact good_fin (fun t ls S => by rw [ev] <;> rfl) (fun _ => rfl) (pe_calD (x.fd h1) x.tk x.room (x.gl h2) (dbg_h h3).1 (okL es x h4 h5 z) (star_each hs.1 _ _) (stars_no hs.2 _ _)) (fun h => by cases h)
    · cases h
  | .calk f ks vs, X, k, W, E, x, h, z => by
    simp only [chkE] at h
    split at h
    · simp only [Bool.and_eq_true, decide_eq_true_eq] at h
      obtain ⟨⟨⟨⟨⟨⟨rfl, h1⟩, h2⟩, h3⟩, h4⟩, h5⟩, h6⟩ := h
      obtain ⟨ix, hix⟩ := Option.isSome_iff_exists.mp h4
      obtain ⟨k1, k2, k3⟩ := kw_each h5 (by assumption) X.env
      have hlen : ∀ ls S ds S', evs (G.cx cal) vs ls S = .ok ds S' → ds.length = (ks.map Str.ofString).length := fun ls S ds S' e => by
        rw [evs_len _ _ e, List.length_map, kwl_len h5, chkL_len h6]
      refine good_fin (fun t ls S => by rw [ev]; show fin t _ = fin t _; rw [show (G.cx cal).kws f ks = some ix from hix] <;> rfl) (fun _ => rfl) (pe_calkD (x.fk h1 hix) x.tk x.room (x.gl h2) (dbg_h h3).1 (okK vs x h6 z) hlen k1 k2 (by rw [k3]; rfl)) (fun h => by cases h)
    · cases h
  | .isi e T, X, k, W, E, x, h, z => by
    simp only [chkE] at h
    split at h
    · simp only [Bool.and_eq_true, decide_eq_true_eq, Bool.not_eq_true'] at h
      obtain ⟨⟨⟨⟨⟨⟨rfl, rfl⟩, h1⟩, h2⟩, h3⟩, h4⟩, h5⟩ := h
      obtain ⟨b1, b2, b3⟩ := isi_boot h1
      have hmT : X.mg (Str.ofString T) = none := x.env.bl _ (by
        have hT' : T = "bool" ∨ T = "int" ∨ T = "str" ∨ T = "tuple" ∨ T = "list" ∨ T = "dict" := by simpa [isiT] using h1
        rcases hT' with rfl | rfl | rfl | rfl | rfl | rfl <;> simp [bltNames])
      exact good_fin (fun t ls S => by rw [ev] <;> rfl) (fun _ => rfl) (pe_isiD h1 (x.gl h2) (x.env.bl _ (by simp [bltNames])) (x.gl h3) hmT b1 b2 b3 (okE e x h5 z).pe (star_each h4 _ _)) (fun h => by cases h)
    · cases h
  | .blt f es, X, k, W, E, x, h, z => by
    simp only [chkE] at h
    split at h
    · simp only [Bool.and_eq_true, decide_eq_true_eq, Bool.not_eq_true'] at h
      obtain ⟨⟨⟨rfl, h2⟩, h4⟩, h5⟩ := h
      have hs := h4
      unfold stars at hs
      rw [List.any_cons, Bool.or_eq_false_iff] at hs
      exact good_new (fun t ls S => by rw [ev] <;> rfl) (fun _ => rfl) (pe_blt x.calm x.un (x.gl h2) (x.env.bl _ (by cases f <;> simp [bltNames, bltX])) (okL es x h4 h5 z) (star_each hs.1 _ _) (stars_no hs.2 _ _))
    · cases h
  | .mth m o es, X, k, W, E, x, h, z => by
    simp only [chkE] at h
    split at h
    · simp only [Bool.and_eq_true, decide_eq_true_eq] at h
      obtain ⟨⟨⟨⟨⟨rfl, h1⟩, h2⟩, h3⟩, h4⟩, h5⟩ := h
      have go := (okE o x h4 z).pe
      split at h5
      · split at h5
        · cases es with
          | nil =>
            exact good_fin (fun t ls S => by rw [ev] <;> rfl) (fun _ => rfl) (pe_popD go (base_h h2 _ _) h3) (fun h => by cases h)
          | cons _ _ => simp [chkL] at h5
        · cases h5
      · simp only [Bool.and_eq_true, decide_eq_true_eq, Bool.not_eq_true'] at h5
        have hs := h5.1.1
        unfold stars at hs
        rw [List.any_cons, Bool.or_eq_false_iff] at hs
        refine good_fin (fun t ls S => by rw [ev] <;> rfl) (fun _ => rfl) (pe_mthD h1 go (okL es x h5.1.1 h5.2 z) (base_h h2 _ _) ?_ h3 (star_each hs.1 _ _) (stars_no hs.2 _ _)) (fun h => by cases h)
        rw [stars_all h5.1.1]
        have hl := h5.1.2
        simp only [List.length_cons] at hl ⊢
        show (true && true && decide (_ + 1 + 0 + 0 < 30)) = true
        simp; omega
    · cases h
  | .comp own tg it ifs elt, X, k, W, E, x, h, z => by
    simp only [chkE] at h
    split at h
    · simp only [Bool.and_eq_true, decide_eq_true_eq, List.all_eq_true] at h
      obtain ⟨⟨⟨⟨⟨⟨rfl, h1⟩, h2⟩, h3⟩, h4⟩, h5⟩, h6⟩ := h
      obtain ⟨ok, hown⟩ := blk_ok x h1
      have hI := okI it x h3 z
      have hfs : ∀ y, foldedSetIterable _ X.env y = pure y := chkI_fold h3 X.env
      cases ifs with
      | no =>
        have e6 := chkF_no h6
        subst e6
        refine good_new (f := fun ls S => (evi (G.cx cal) it ls S).bd fun w S1 => (compF w.2 (turnF (G.cx cal) tg ((ownN own k.N).map (·.2)) ls none (fun l s => ev (G.cx cal) elt false l s)) w.1 [] S1).nox.bd fun acc S2 => .ok (.lst acc) S2) (fun t ls S => ?_) (fun _ => rfl) ?_
        · rw [ev, hown] <;> rfl
        · exact pe_compD (wc := none) x.calm (by rw [x.hn]; exact x.nd) (by rw [hown]; exact h2) rfl hI ok
            (fun s H C cl fp => pg_exG fun z => okT tg (blk_k x h1 s H C cl fp) h4 z) (fun s H C cl fp => pts_nil)
            (fun s H C cl fp => pe_exP fun z => (okE elt (blk_k x h1 s H C cl fp) h5 z).pe) hfs
      | so c =>
        obtain ⟨C0, rfl, e6⟩ := chkF_so h6
        refine good_new (f := fun ls S => (evi (G.cx cal) it ls S).bd fun w S1 => (compF w.2 (turnF (G.cx cal) tg ((ownN own k.N).map (·.2)) ls (some fun l s => ev (G.cx cal) c true l s) (fun l s => ev (G.cx cal) elt false l s)) w.1 [] S1).nox.bd fun acc S2 => .ok (.lst acc) S2) (fun t ls S => ?_) (fun _ => rfl) ?_
        · rw [ev, hown] <;> rfl
        · exact pe_compD (wc := some fun l s => ev (G.cx cal) c true l s) x.calm (by rw [x.hn]; exact x.nd) (by rw [hown]; exact h2) rfl hI ok
            (fun s H C cl fp => pg_exG fun z => okT tg (blk_k x h1 s H C cl fp) h4 z) (fun s H C cl fp => pts_one (pt_exT fun z => (okE c (blk_k x h1 s H C cl fp) e6 z).pt))
            (fun s H C cl fp => pe_exP fun z => (okE elt (blk_k x h1 s H C cl fp) h5 z).pe) hfs
    · cases h
  | .dcmp _ _ _ _ _ _, X, k, W, E, x, h, z => by simp [chkE] at h
  | .exf _ _, X, k, W, E, x, h, z => by simp [chkE] at h
  | .gix y e, X, k, W, E, x, h, z => by
    simp only [chkE] at h
    split at h
    · simp only [Bool.and_eq_true, decide_eq_true_eq, Bool.not_eq_true'] at h
      obtain ⟨⟨⟨⟨⟨rfl, h1⟩, h2⟩, h3⟩, h4⟩, h5⟩ := h
      obtain ⟨⟨ks, vs⟩, hk⟩ := Option.isSome_iff_exists.mp h3
      refine good_fin (fun t ls S => by rw [ev]; show fin t _ = fin t _; rw [show (G.cx cal).gdc y = some (ks, vs) from hk] <;> rfl) (fun _ => rfl) (pe_gixD (x.gl h1) (dbg_h h2).1 (x.kd_ hk) (x.env.gd y ks vs hk).1 (okE e x h5 z).pe (plain_ix h4)) (fun h => by cases h)
    · cases h
  | .gin y e, X, k, W, E, x, h, z => by
    simp only [chkE] at h
    split at h
    · simp only [Bool.and_eq_true, decide_eq_true_eq] at h
      obtain ⟨⟨⟨⟨rfl, h1⟩, h2⟩, h3⟩, h5⟩ := h
      obtain ⟨⟨ks, vs⟩, hk⟩ := Option.isSome_iff_exists.mp h3
      exact good_both (fun ls S => by rw [ev, show (G.cx cal).gdc y = some (ks, vs) from hk] <;> rfl) (fun ls S => by rw [ev, show (G.cx cal).gdc y = some (ks, vs) from hk] <;> rfl) (pe_kdD false (x.gl h1) (dbg_h h2).1 (x.kd_ hk) (okE e x h5 z).pe) (pt_kdD false (x.gl h1) (dbg_h h2).1 (x.kd_ hk) (okE e x h5 z).pe) rfl
    · cases h
  | .gni y e, X, k, W, E, x, h, z => by
    simp only [chkE] at h
    split at h
    · simp only [Bool.and_eq_true, decide_eq_true_eq] at h
      obtain ⟨⟨⟨⟨rfl, h1⟩, h2⟩, h3⟩, h5⟩ := h
      obtain ⟨⟨ks, vs⟩, hk⟩ := Option.isSome_iff_exists.mp h3
      exact good_both (fun ls S => by rw [ev, show (G.cx cal).gdc y = some (ks, vs) from hk] <;> rfl) (fun ls S => by rw [ev, show (G.cx cal).gdc y = some (ks, vs) from hk] <;> rfl) (pe_kdD true (x.gl h1) (dbg_h h2).1 (x.kd_ hk) (okE e x h5 z).pe) (pt_kdD true (x.gl h1) (dbg_h h2).1 (x.kd_ hk) (okE e x h5 z).pe) rfl
    · cases h
  | .any, X, k, W, E, x, h, z => good_both (fun ls S => by rw [ev] <;> rfl) (fun ls S => by rw [ev] <;> rfl) pe_bad pt_bad rfl
theorem okD : ∀ (ks : List D) (vs : CL) {X : Cx} {k : Kc} {Ks : List (Option Expr)} {Vs : List Expr} {pos : Pos}, Xk X G cal k n noW → keyC ks Ks = true → chkL G k vs Vs = true → Ks.length = Vs.length → PPr X pos Ks Vs ks fun ls S => evs (G.cx cal) vs ls S
  | _, .nil, X, k, Ks, Vs, pos, x, h1, h2, hl => by
    cases Vs with
    | cons _ _ => simp [chkL] at h2
    | nil =>
      cases Ks with
      | cons _ _ => simp at hl
      | nil =>
        have hk := (keyC_len h1).1
        have e : (fun ls S => evs (G.cx cal) .nil ls S) = fun _ S => .ok [] S := by funext ls S; rw [evs]
        rw [e]
        rw [List.length_eq_zero_iff.mp hk]
        exact ppr_nil
  | ks, .cons c es, X, k, Ks, Vs, pos, x, h1, h2, hl => by
    cases Vs with
    | nil => simp [chkL] at h2
    | cons V0 Vs =>
      cases Ks with
      | nil => simp at hl
      | cons K0 Ks =>
        simp only [chkL, Bool.and_eq_true] at h2
        have e : (fun ls S => evs (G.cx cal) (.cons c es) ls S) = fun ls S => (ev (G.cx cal) c false ls S).bd fun d S1 => (evs (G.cx cal) es ls S1).bd fun ds S2 => .ok (d :: ds) S2 := by funext ls S; rw [evs]
        rw [e]
        obtain ⟨d, ds, cc, j, p, rfl, rfl, q1, q2, q3⟩ := keyC_inv h1
        exact ppr_cons q1 q2 (fun z => (okE c x h2.1 z).pe) (okD ds es x q3 h2.2 (by simpa using hl))
theorem okL : ∀ (es : CL) {X : Cx} {k : Kc} {W : WX} {Es : List Expr}, Xk X G cal k n W → stars Es = false → chkL G k es Es = true → ∀ z : W0, PA X Es (upA X.K X.mg z W fun ls S => evs (G.cx cal) es ls S)
  | .nil, X, k, W, [], x, hs, h, z => by
    have e : (fun ls S => evs (G.cx cal) .nil ls S) = fun _ S => .ok [] S := by funext ls S; rw [evs]
    rw [e]; exact pa_nilD
  | .nil, X, k, W, _ :: _, x, hs, h, z => by simp [chkL] at h
  | .cons _ _, X, k, W, [], x, hs, h, z => by simp [chkL] at h
  | .cons c es, X, k, W, E :: Es, x, hs, h, z => by
    simp only [chkL, Bool.and_eq_true] at h
    unfold stars at hs
    rw [List.any_cons, Bool.or_eq_false_iff] at hs
    have e : (fun ls S => evs (G.cx cal) (.cons c es) ls S) = fun ls S => (ev (G.cx cal) c false ls S).bd fun d S1 => (evs (G.cx cal) es ls S1).bd fun ds S2 => .ok (d :: ds) S2 := by funext ls S; rw [evs]
    rw [e]
    exact pa_consD (okE c x h.1 z).pe (okL es x hs.2 h.2 z) (star_each hs.1 _ _)
theorem okK : ∀ (es : CL) {X : Cx} {k : Kc} {W : WX} {kws : List Keyword}, Xk X G cal k n W → chkL G k es (kwv kws) = true → ∀ z : W0, PK X kws (upA X.K X.mg z W fun ls S => evs (G.cx cal) es ls S)
  | .nil, X, k, W, [], x, h, z => by
    have e : (fun ls S => evs (G.cx cal) .nil ls S) = fun _ S => .ok [] S := by funext ls S; rw [evs]
    rw [e]; exact pk_nilD
  | .nil, X, k, W, _ :: _, x, h, z => by simp [chkL, kwv] at h
  | .cons _ _, X, k, W, [], x, h, z => by simp [chkL, kwv] at h
  | .cons c es, X, k, W, ⟨nm, E, p⟩ :: kws, x, h, z => by
    simp only [chkL, kwv, List.map_cons, Bool.and_eq_true] at h
    have e : (fun ls S => evs (G.cx cal) (.cons c es) ls S) = fun ls S => (ev (G.cx cal) c false ls S).bd fun d S1 => (evs (G.cx cal) es ls S1).bd fun ds S2 => .ok (d :: ds) S2 := by funext ls S; rw [evs]
    rw [e]
    exact pk_consD (okE c x h.1 z).pe (okK es x h.2 z)
theorem okA : ∀ (es : CL) {X : Cx} {k : Kc} {W : WX} {Es : List Expr} {pos : Pos}, Xk X G cal k n W → chkL G k es Es = true → ∀ z : W0, PE X (.BoolOp .And Es pos) (up X.K X.mg z W fun ls S => evA (G.cx cal) es false ls S) ∧ PW X (.BoolOp .And Es pos) (upT X.K X.mg z W fun ls S => evA (G.cx cal) es true ls S)
  | .nil, X, k, W, Es, pos, x, h, z => by
    have e : ∀ t, (fun ls S => evA (G.cx cal) .nil t ls S) = fun _ _ => .bad := fun t => by funext ls S; rw [evA]
    rw [e, e]; exact ⟨pe_bad, pw_bad⟩
  | .cons _ _, X, k, W, [], pos, x, h, z => by simp [chkL] at h
  | .cons c .nil, X, k, W, E :: Es, pos, x, h, z => by
    simp only [chkL, Bool.and_eq_true] at h
    cases Es with
    | nil =>
      have e : ∀ t, (fun ls S => evA (G.cx cal) (.cons c .nil) t ls S) = fun ls S => ev (G.cx cal) c t ls S := fun t => by funext ls S; rw [evA]
      rw [e, e]
      exact ⟨pe_one (okE c x h.1 z).pe, pw_and1 (okE c x h.1 z).pt⟩
    | cons _ _ => simp [chkL] at h
  | .cons c (.cons c2 es), X, k, W, E :: Es, pos, x, h, z => by
    have h' := h
    simp only [chkL, Bool.and_eq_true] at h
    cases Es with
    | nil => simp [chkL] at h
    | cons E2 Es =>
      have hr : chkL G k (.cons c2 es) (E2 :: Es) = true := by
        rw [chkL, Bool.and_eq_true] at h'; exact h'.2
      obtain ⟨p1, p2⟩ := okA (.cons c2 es) (pos := pos) x hr z
      have g := okE c x h.1 z
      have e : ∀ t, (fun ls S => evA (G.cx cal) (.cons c (.cons c2 es)) t ls S) = fun ls S => (ev (G.cx cal) c t ls S).bd fun d S1 => match d with
        | .bl true => evA (G.cx cal) (.cons c2 es) t ls S1
        | .bl false => .ok (.bl false) S1
        | _ => .bad := fun t => by funext ls S; rw [evA] <;> first | rfl | (intro h; cases h)
      rw [e, e]
      exact ⟨pe_andD g.pe p1, pw_andD g.pt p2⟩
theorem okO : ∀ (es : CL) {X : Cx} {k : Kc} {W : WX} {Es : List Expr} {pos : Pos}, Xk X G cal k n W → chkL G k es Es = true → ∀ z : W0, PE X (.BoolOp .Or Es pos) (up X.K X.mg z W fun ls S => evO (G.cx cal) es false ls S) ∧ PW X (.BoolOp .Or Es pos) (upT X.K X.mg z W fun ls S => evO (G.cx cal) es true ls S)
  | .nil, X, k, W, Es, pos, x, h, z => by
    have e : ∀ t, (fun ls S => evO (G.cx cal) .nil t ls S) = fun _ _ => .bad := fun t => by funext ls S; rw [evO]
    rw [e, e]; exact ⟨pe_bad, pw_bad⟩
  | .cons _ _, X, k, W, [], pos, x, h, z => by simp [chkL] at h
  | .cons c .nil, X, k, W, E :: Es, pos, x, h, z => by
    simp only [chkL, Bool.and_eq_true] at h
    cases Es with
    | nil =>
      have e : ∀ t, (fun ls S => evO (G.cx cal) (.cons c .nil) t ls S) = fun ls S => ev (G.cx cal) c t ls S := fun t => by funext ls S; rw [evO]
      rw [e, e]
      exact ⟨pe_one (okE c x h.1 z).pe, pw_or1 (okE c x h.1 z).pt⟩
    | cons _ _ => simp [chkL] at h
  | .cons c (.cons c2 es), X, k, W, E :: Es, pos, x, h, z => by
    have h' := h
    simp only [chkL, Bool.and_eq_true] at h
    cases Es with
    | nil => simp [chkL] at h
    | cons E2 Es =>
      have hr : chkL G k (.cons c2 es) (E2 :: Es) = true := by
        rw [chkL, Bool.and_eq_true] at h'; exact h'.2
      obtain ⟨p1, p2⟩ := okO (.cons c2 es) (pos := pos) x hr z
      have g := okE c x h.1 z
      have e : ∀ t, (fun ls S => evO (G.cx cal) (.cons c (.cons c2 es)) t ls S) = fun ls S => (ev (G.cx cal) c t ls S).bd fun d S1 => match d with
        | .bl true => .ok (.bl true) S1
        | .bl false => evO (G.cx cal) (.cons c2 es) t ls S1
        | _ => .bad := fun t => by funext ls S; rw [evO] <;> first | rfl | (intro h; cases h)
      rw [e, e]
      exact ⟨pe_orD g.pe p1, pw_orD g.pt p2⟩
theorem okP : ∀ (o : CO) {X : Cx} {k : Kc} {W : WX} {Eo : Option Expr}, Xk X G cal k n W → chkO G k o Eo = true → ∀ z : W0, PO X Eo (upO X.K X.mg z W fun ls S => evp (G.cx cal) o ls S)
  | .no, X, k, W, none, x, h, z => by
    have e : (fun ls S => evp (G.cx cal) .no ls S) = fun _ S => .ok none S := by funext ls S; rw [evp] <;> rfl
    rw [e]; exact po_noD
  | .no, X, k, W, some _, x, h, z => by simp [chkO] at h
  | .so _, X, k, W, none, x, h, z => by simp [chkO] at h
  | .so c, X, k, W, some E, x, h, z => by
    simp only [chkO] at h
    have e : (fun ls S => evp (G.cx cal) (.so c) ls S) = fun ls S => (ev (G.cx cal) c false ls S).bd fun d S1 => match d with
      | .int i => .ok (some i) S1
      | _ => .bad := by funext ls S; rw [evp] <;> rfl
    rw [e]; exact po_soD (okE c x h z).pe
theorem okI : ∀ (i : CI) {X : Cx} {k : Kc} {W : WX} {T E : Expr}, Xk X G cal k n W → chkI G k i T E = true → ∀ z : W0, PI X T E (upI X.K X.mg z W fun ls S => evi (G.cx cal) i ls S)
  | .seq c, X, k, W, T, E, x, h, z => by
    simp only [chkI, Bool.and_eq_true] at h
    have e : (fun ls S => evi (G.cx cal) (.seq c) ls S) = fun ls S => (ev (G.cx cal) c false ls S).bd fun d S1 => ofO S1 (srcD S1 d) := by funext ls S; rw [evi] <;> rfl
    rw [e]; exact pi_seqD (okE c x h.2 z).pe
  | .rng1 a, X, k, W, T, E, x, h, z => by
    simp only [chkI] at h
    split at h
    · simp only [Bool.and_eq_true, decide_eq_true_eq, Bool.not_eq_true'] at h
      obtain ⟨⟨⟨rfl, h1⟩, h2⟩, h3⟩ := h
      have e : (fun ls S => evi (G.cx cal) (.rng1 a) ls S) = fun ls S => (ev (G.cx cal) a false ls S).bd fun d S1 => match d with
        | .int j => if rngOk j then .ok (rngL 0 j.toNat, []) S1 else .bad
        | _ => .bad := by funext ls S; rw [evi] <;> rfl
      rw [e]
      exact pi_rng1D (x.gl h1) (x.env.bl _ (by simp [bltNames])) (okE a x h3 z).pe (star_each h2 _ _)
    · cases h
  | .rng2 a b, X, k, W, T, E, x, h, z => by
    simp only [chkI] at h
    split at h
    · simp only [Bool.and_eq_true, decide_eq_true_eq, Bool.not_eq_true'] at h
      obtain ⟨⟨⟨⟨⟨rfl, h1⟩, h2⟩, h2'⟩, h3⟩, h4⟩ := h
      have e : (fun ls S => evi (G.cx cal) (.rng2 a b) ls S) = fun ls S => (ev (G.cx cal) a false ls S).bd fun d S1 => (ev (G.cx cal) b false ls S1).bd fun e S2 => match d, e with
        | .int i, .int j => if rngOk i && rngOk j then .ok (rngL i (j - i).toNat, []) S2 else .bad
        | _, _ => .bad := by funext ls S; rw [evi] <;> rfl
      rw [e]
      exact pi_rng2D (x.gl h1) (x.env.bl _ (by simp [bltNames])) (okE a x h3 z).pe (okE b x h4 z).pe (star_each h2 _ _) (star_each h2' _ _)
    · cases h
  | .rng3 _ _ _, X, k, W, T, E, x, h, z => by simp [chkI] at h
  | .enu c, X, k, W, T, E, x, h, z => by
    simp only [chkI] at h
    split at h
    · split at h
      · simp only [Bool.and_eq_true, decide_eq_true_eq, Bool.not_eq_true'] at h
        obtain ⟨⟨⟨rfl, h1⟩, h2⟩, h3⟩ := h
        have e : (fun ls S => evi (G.cx cal) (.enu c) ls S) = fun ls S => (ev (G.cx cal) c false ls S).bd fun d S1 => (ofO S1 (srcQ S1 d)).bd fun w S2 => .ok (enuL 0 w.1, w.2) S2 := by funext ls S; rw [evi] <;> rfl
        rw [e]
        exact pi_enuD (x.gl h1) (x.env.bl _ (by simp [bltNames])) (okE c x h3 z).pe (star_each h2 _ _)
      · cases h
    · cases h
  | .zip _ _, X, k, W, T, E, x, h, z => by simp [chkI] at h
  | .rvs _, X, k, W, T, E, x, h, z => by simp [chkI] at h
end
end
end Ev
/-! Ev19: statements, by their readings. -/
namespace Ev
open PySem PySem.Spec PyProof.Rows L2

def sEx (K : PySem.W.Frag) (mg : Str → Option Value) (z : W0) (W : WX) (S' : Sto) (c : String) (fs : List (String × D)) : Prop :=
  ∀ φ' σ' H' cls dd, Stp z.φ z.S z.H φ' S' H' → Wld K φ' S' H' z.B → ExR K mg φ' (LB φ' S' z.B) H' c fs cls dd → W cls dd σ' H'
/-- what a statement's result is asked to give -/
def sG (K : PySem.W.Frag) (mg : Str → Option Value) (z : W0) (W : WX) (Dn : Ends) (φ : List Addr) (S : Sto) (H : Hp) (r : SR) : Prop := match r with
  | .nx ls' S' => ∀ φ' σ' H', Stp φ S H φ' S' H' → Here K z φ' S' ls' σ' H' → Dn.nx σ' H'
  | .bk ls' S' => ∀ φ' σ' H', Stp φ S H φ' S' H' → Here K z φ' S' ls' σ' H' → Dn.bk σ' H'
  | .ct ls' S' => ∀ φ' σ' H', Stp φ S H φ' S' H' → Here K z φ' S' ls' σ' H' → Dn.ct σ' H'
  | .rt d S' => ∀ φ' H' v, Stp z.φ z.S z.H φ' S' H' → Wld K φ' S' H' z.B → Rep K φ' (LB φ' S' z.B) H' d v → Dn.rt v H'
  | .exc c fs _ S' => sEx K mg z W S' c fs
  | .bad => False
def upS (K : PySem.W.Frag) (mg : Str → Option Value) (z : W0) (W : WX) (r : Loc → Sto → SR) : TS := fun Dn σ H => ∃ φ S ls, Here K z φ S ls σ H ∧ sG K mg z W Dn φ S H (r ls S)
section
variable {X : Cx} {z : W0} {W : WX} {φ : List Addr} {S : Sto} {H : Hp} {σ : L2.St} {pos : Pos} {Dn : Ends}
theorem sG_step {K : PySem.W.Frag} {mg : Str → Option Value} {r : SR} {φ' : List Addr} {S' : Sto} {H' : Hp} (st : Stp φ S H φ' S' H') (h : sG K mg z W Dn φ S H r) : sG K mg z W Dn φ' S' H' r := by
  cases r with
  | bad => exact h
  | exc c fs l S2 => exact h
  | rt d S2 => exact h
  | nx l S2 => exact fun φ2 H2 v st2 => h φ2 H2 v (st.trans st2)
  | bk l S2 => exact fun φ2 H2 v st2 => h φ2 H2 v (st.trans st2)
  | ct l S2 => exact fun φ2 H2 v st2 => h φ2 H2 v (st.trans st2)
theorem sEx_e {K : PySem.W.Frag} {mg : Str → Option Value} {S' : Sto} {c : String} {fs : List (String × D)} (h : sEx K mg z W S' c fs) : eEx K mg z W σ S' c fs := fun φ' H' cls dd => h φ' σ H' cls dd
/-- an expression, then what is made of it -/
theorem upS_sd {K : PySem.W.Frag} {mg : Str → Option Value} {w : Loc → Sto → Res Ev.D} {f : Ev.D → Sto → SR} {Q' : VK} {ls : Loc} (h : Here K z φ S ls σ H) (hg : sG K mg z W Dn φ S H ((w ls S).sd ls f))
    (hq : ∀ d S1 φ1 H1 v, Stp φ S H φ1 S1 H1 → Here K z φ1 S1 ls σ H1 → Rep K φ1 (LB φ1 S1 z.B) H1 d v → sG K mg z W Dn φ1 S1 H1 (f d S1) → Q' v H1) : up K mg z W w σ H Q' := by
  refine ⟨φ, S, ls, h, ?_⟩
  cases e : w ls S with
  | bad => rw [e] at hg; exact hg
  | exc c fs S' => rw [e] at hg; exact sEx_e hg
  | ok d S1 =>
    rw [e] at hg
    exact fun φ1 H1 v st wd rp => hq d S1 φ1 H1 v st (h.step st wd) rp (sG_step st hg)
theorem upS_sdA {K : PySem.W.Frag} {mg : Str → Option Value} {w : Loc → Sto → Res (List Ev.D)} {f : List Ev.D → Sto → SR} {Q' : List V → Hp → Prop} {ls : Loc} (h : Here K z φ S ls σ H) (hg : sG K mg z W Dn φ S H ((w ls S).sd ls f))
    (hq : ∀ d S1 φ1 H1 v, Stp φ S H φ1 S1 H1 → Here K z φ1 S1 ls σ H1 → Reps K φ1 (LB φ1 S1 z.B) H1 d v → sG K mg z W Dn φ1 S1 H1 (f d S1) → Q' v H1) : upA K mg z W w σ H Q' := by
  refine ⟨φ, S, ls, h, ?_⟩
  cases e : w ls S with
  | bad => rw [e] at hg; exact hg
  | exc c fs S' => rw [e] at hg; exact sEx_e hg
  | ok d S1 =>
    rw [e] at hg
    exact fun φ1 H1 v st wd rp => hq d S1 φ1 H1 v st (h.step st wd) rp (sG_step st hg)
theorem upS_sdT {K : PySem.W.Frag} {mg : Str → Option Value} {w : Loc → Sto → Res Ev.D} {f g : Sto → SR} {Q' : Bool → Hp → Prop} {ls : Loc} (h : Here K z φ S ls σ H) (hg : sG K mg z W Dn φ S H ((w ls S).sd ls fun d S1 => match d with
    | .bl true => f S1
    | .bl false => g S1
    | _ => .bad))
    (hq : ∀ (k : Bool) S1 φ1 H1, Stp φ S H φ1 S1 H1 → Here K z φ1 S1 ls σ H1 → w ls S = .ok (.bl k) S1 → sG K mg z W Dn φ1 S1 H1 (if k = true then f S1 else g S1) → Q' k H1) : upT K mg z W w σ H Q' := by
  refine ⟨φ, S, ls, h, ?_⟩
  cases e : w ls S with
  | bad => rw [e] at hg; exact hg
  | exc c fs S' => rw [e] at hg; exact sEx_e hg
  | ok d S1 =>
    rw [e] at hg
    cases d with
    | bl k =>
      intro φ1 H1 st wd
      refine hq k S1 φ1 H1 st (h.step st wd) e (sG_step st ?_)
      cases k <;> exact hg
    | _ => exact hg.elim
theorem PS.imp' {st : Stmt} {t t' : TS} (h : PS X st t) (i : ∀ D σ H, t' D σ H → t D σ H) : PS X st t' := ⟨fun pins s σ H D I q => h.run pins s σ H D I (i _ _ _ q)⟩
theorem PSs.imp' {st : List Stmt} {t t' : TS} (h : PSs X st t) (i : ∀ D σ H, t' D σ H → t D σ H) : PSs X st t' := ⟨fun pins s σ H D I q => h.run pins s σ H D I (i _ _ _ q)⟩
theorem sG_nx {K : PySem.W.Frag} {mg : Str → Option Value} {ls : Loc} (h : Here K z φ S ls σ H) (g : sG K mg z W Dn φ S H (.nx ls S)) : Dn.nx σ H := g φ σ H Stp.refl h
theorem ps_exprD {e : Expr} {w : Loc → Sto → Res Ev.D} (he : PE X e (up X.K X.mg z W w)) (hs : swapsWith e none pos.line X.env = pure false) : PS X (.Expr e pos) (upS X.K X.mg z W fun ls S => (w ls S).sd ls fun _ S1 => .nx ls S1) :=
  PS.imp' (ps_expr he hs) fun D σ H h => by
    obtain ⟨φ, S, ls, h, g⟩ := h
    exact upS_sd h g fun d S1 φ1 H1 v st h1 r g1 => sG_nx h1 g1
theorem ps_retD {e : Expr} {w : Loc → Sto → Res Ev.D} (he : PE X e (up X.K X.mg z W w)) : PS X (.Return (some e) pos) (upS X.K X.mg z W fun ls S => (w ls S).sd ls fun d S1 => .rt d S1) :=
  PS.imp' (ps_ret he) fun D σ H h => by
    obtain ⟨φ, S, ls, h, g⟩ := h
    exact upS_sd h g fun d S1 φ1 H1 v st h1 r g1 => g1 φ1 H1 v h1.st h1.w r
theorem ps_retND : PS X (.Return none pos) (upS X.K X.mg z W fun _ S => .rt .non S) := PS.imp' ps_retN fun D σ H h => by
  obtain ⟨φ, S, ls, h, g⟩ := h
  exact g φ H .non h.st h.w .non
theorem ps_passD : PS X (.Pass pos) (upS X.K X.mg z W fun ls S => .nx ls S) := PS.imp' ps_pass fun D σ H h => by
  obtain ⟨φ, S, ls, h, g⟩ := h
  exact sG_nx h g
theorem ps_brkD : PS X (.Break pos) (upS X.K X.mg z W fun ls S => .bk ls S) := PS.imp' ps_break fun D σ H h => by
  obtain ⟨φ, S, ls, h, g⟩ := h
  exact g φ σ H Stp.refl h
theorem ps_cntD : PS X (.Continue pos) (upS X.K X.mg z W fun ls S => .ct ls S) := PS.imp' ps_continue fun D σ H h => by
  obtain ⟨φ, S, ls, h, g⟩ := h
  exact g φ σ H Stp.refl h
theorem ps_anyD {st : Stmt} : PS X st (upS X.K X.mg z W fun _ _ => .bad) := PS.imp' ps_never fun D σ H h => by
  obtain ⟨φ, S, ls, h, g⟩ := h
  exact g
theorem pss_nilD : PSs X [] (upS X.K X.mg z W fun ls S => .nx ls S) := PSs.imp' pss_nil fun D σ H h => by
  obtain ⟨φ, S, ls, h, g⟩ := h
  exact sG_nx h g
theorem pss_consD {s : Stmt} {b : List Stmt} {f g : Loc → Sto → SR} (h1 : PS X s (upS X.K X.mg z W f)) (h2 : PSs X b (upS X.K X.mg z W g)) : PSs X (s :: b) (upS X.K X.mg z W fun ls S => (f ls S).sq fun l2 S2 => g l2 S2) :=
  PSs.imp' (pss_cons h1 h2) fun D σ H h => by
    obtain ⟨φ, S, ls, h, gg⟩ := h
    refine ⟨φ, S, ls, h, ?_⟩
    try dsimp only at gg
    cases e : f ls S with
    | nx l2 S2 =>
      rw [e] at gg
      exact fun φ' σ' H' st h' => ⟨φ', S2, l2, h', sG_step st gg⟩
    | bad => rw [e] at gg; exact gg
    | exc c fs l S2 => rw [e] at gg; exact gg
    | rt d S2 => rw [e] at gg; exact gg
    | bk l S2 => rw [e] at gg; exact gg
    | ct l S2 => rw [e] at gg; exact gg
theorem ps_ifD {c : Expr} {a b : List Stmt} {w : Loc → Sto → Res Ev.D} {f g : Loc → Sto → SR} (hc : PT X c (upT X.K X.mg z W w)) (ha : PSs X a (upS X.K X.mg z W f)) (hb : PSs X b (upS X.K X.mg z W g)) : PS X (.If c a b pos) (upS X.K X.mg z W fun ls S => (w ls S).sd ls fun d S1 => match d with
    | .bl true => f ls S1
    | .bl false => g ls S1
    | _ => .bad) :=
  PS.imp' (ps_if hc ha hb) fun D σ H h => by
    obtain ⟨φ, S, ls, h, gg⟩ := h
    refine upS_sdT h gg fun k S1 φ1 H1 st h1 _ g1 => ?_
    cases k with
    | true => rw [if_pos rfl]; exact ⟨φ1, S1, ls, h1, by simpa using g1⟩
    | false => rw [if_neg Bool.false_ne_true]; exact ⟨φ1, S1, ls, h1, by simpa using g1⟩
/-- target = value -/
theorem tAsg_up {K : PySem.W.Frag} {mg : Str → Option Value} {is : List Nat} {f : Ev.D → Loc → Option Loc} {w : Loc → Sto → Res Ev.D} (h : upS K mg z W (fun ls S => (w ls S).sd ls fun d S1 => match f d ls with
    | some l2 => .nx l2 S1
    | none => .bad) Dn σ H) : up K mg z W w σ H fun x H1 => upG K z is f x σ H1 Dn.nx := by
  obtain ⟨φ, S, ls, h, g⟩ := h
  refine upS_sd h g fun d S1 φ1 H1 v st h1 r g1 => ?_
  cases e : f d ls with
  | none => rw [e] at g1; exact g1.elim
  | some l2 =>
    rw [e] at g1
    exact ⟨φ1, S1, ls, d, l2, h1, r, e, fun σ' h' _ => g1 φ1 σ' H1 Stp.refl h'⟩
theorem ps_asgD {tg e : Expr} {is : List Nat} {f : Ev.D → Loc → Option Loc} {w : Loc → Sto → Res Ev.D} (he : PE X e (up X.K X.mg z W w)) (hg : PG X tg (upG X.K z is f)) (hs : swapsWithSole [tg] e pos.line X.env = pure false) (hw : swappedStores [tg] e X.env = pure none)
    (h1 : (assignEach [tg] X.env).map (·.2) = [assign tg X.env]) : PS X (.Assign [tg] e pos) (upS X.K X.mg z W fun ls S => (w ls S).sd ls fun d S1 => match f d ls with
    | some l2 => .nx l2 S1
    | none => .bad) := PS.imp' (ps_asg he hg hs hw h1) fun D σ H h => tAsg_up h
/-- name = [..] on one line: te is a comprehension's reading -/
theorem gName_up {K : PySem.W.Frag} {i : Nat} {v : V} {Q : L2.St → Hp → Prop} (h : upG K z [i] (fun d ls => if i < ls.length then some (ls.set i (some d)) else none) v σ H Q) : gName i v σ H Q := by
  obtain ⟨φ, S, ls, d, ls', h, r, e, q⟩ := h
  dsimp only at e
  split at e
  · rename_i hl
    cases e
    exact q _ (h.set hl r) fun vs hv => wipe_set σ (hv i (by simp)) _
  · cases e
end
end Ev
/-! Ev20: loops, stores into lists, names set to a comprehension, tuples of names, errors raised and caught. -/
namespace Ev
open PySem PySem.Spec PyProof.Rows L2

section
variable {X : Cx} {z : W0} {W : WX} {φ : List Addr} {S : Sto} {H : Hp} {σ : L2.St} {pos : Pos} {Dn : Ends}
/-! ### while -/
theorem ps_whlD {c : Expr} {b : List Stmt} {w : Loc → Sto → Res D} {f : Loc → Sto → SR} {fuel : Nat} (hp : PassesOwn (model X.prog X.w) X.A X.env X.xe) (hc : PT X c (upT X.K X.mg z W w)) (hb : PSs X b (upS X.K X.mg z W f)) :
    PS X (.While c b [] pos) (upS X.K X.mg z W fun ls S => whlF w f fuel ls S) := PS.imp' (ps_while hp hc hb) fun Dn σ H h => by
  obtain ⟨φ, S, ls, h, g⟩ := h
  refine ⟨fun m σ H => ∃ φ' S' ls', Here X.K z φ' S' ls' σ H ∧ sG X.K X.mg z W Dn φ' S' H (whlF w f m ls' S'), ⟨fuel, φ, S, ls, h, g⟩, fun m σ H ⟨φ', S', ls', h, g⟩ => ?_⟩
  cases m with
  | zero => exact g.elim
  | succ m =>
    unfold whlF at g
    refine upS_sdT h g fun k S1 φ1 H1 st h1 _ g1 => ?_
    cases k with
    | false =>
      rw [if_neg Bool.false_ne_true]
      rw [if_neg Bool.false_ne_true] at g1
      exact sG_nx h1 g1
    | true =>
      rw [if_pos rfl]
      rw [if_pos rfl] at g1
      refine ⟨fun σ2 H2 => ∃ φ2 S2 l2, Here X.K z φ2 S2 l2 σ2 H2 ∧ sG X.K X.mg z W Dn φ2 S2 H2 (whlF w f m l2 S2), fun σ2 H2 h2 => ⟨m, Nat.lt_succ_self m, h2⟩, φ1, S1, ls', h1, ?_⟩
      cases e : f ls' S1 with
      | nx l2 S2 => rw [e] at g1; exact fun φ2 σ2 H2 st2 h2 => ⟨φ2, S2, l2, h2, sG_step st2 g1⟩
      | ct l2 S2 => rw [e] at g1; exact fun φ2 σ2 H2 st2 h2 => ⟨φ2, S2, l2, h2, sG_step st2 g1⟩
      | bk l2 S2 => rw [e] at g1; exact g1
      | rt d S2 => rw [e] at g1; exact g1
      | exc c fs l S2 => rw [e] at g1; exact g1
      | bad => rw [e] at g1; exact g1
/-! ### for -/
theorem forF_cons (ps : List (Nat × List D)) (f : D → Loc → Sto → SR) (x : D) (xs : List D) (ls : Loc) (S : Sto) : forF ps f (x :: xs) ls S = gdS (stands ps S) ((f x ls S).lp fun ls' S' => forF ps f xs ls' S') := by rw [forF]
theorem forF_turn {ps : List (Nat × List D)} {f : D → Loc → Sto → SR} {x : D} {xs : List D} {ls : Loc} {S : Sto} (h : forF ps f (x :: xs) ls S ≠ .bad) : stands ps S ∧ forF ps f (x :: xs) ls S = (f x ls S).lp fun ls' S' => forF ps f xs ls' S' := by
  rw [forF_cons] at h ⊢
  by_cases hs : stands ps S
  · rw [gdS_pos hs]; exact ⟨hs, rfl⟩
  · rw [gdS_neg hs] at h; exact absurd rfl h
theorem sG_ne {K : PySem.W.Frag} {mg : Str → Option Value} {r : SR} (h : sG K mg z W Dn φ S H r) : r ≠ .bad := fun e => by rw [e] at h; exact h
theorem ps_forD {tg iter : Expr} {b : List Stmt} {is : List Nat} {a : D → Loc → Option Loc} {wi : Loc → Sto → Res Wk} {f : Loc → Sto → SR} (hp : PassesOwn (model X.prog X.w) X.A X.env X.xe) (hc : X.calm = true) (hi : PI X tg iter (upI X.K X.mg z W wi)) (hg : PG X tg (upG X.K z is a)) (hb : PSs X b (upS X.K X.mg z W f))
    (hs : ∀ x, foldedSetIterable iter X.env x = pure x) :
    PS X (.For tg iter b [] pos) (upS X.K X.mg z W fun ls S => (wi ls S).sd ls fun w S1 => forF w.2 (fun x l s => match a x l with
      | some l2 => f l2 s
      | none => .bad) w.1 ls S1) := PS.imp' (ps_for hp hc hi hg hb hs) fun Dn σ H h => by
  obtain ⟨φ, S, ls, h, g⟩ := h
  refine ⟨φ, S, ls, h, ?_⟩
  try dsimp only at g
  cases e : wi ls S with
  | bad => rw [e] at g; exact g
  | exc c fs S' => rw [e] at g; exact sEx_e g
  | ok wk S1 =>
    rw [e] at g
    intro φ1 H1 J st1 wd1 srv
    refine ⟨fun i m σ H => m + i = wk.1.length ∧ ∃ φ' S' ls', Stp φ1 S1 H1 φ' S' H ∧ Here X.K z φ' S' ls' σ H ∧ sG X.K X.mg z W Dn φ' S' H (forF wk.2 (fun x l s => match a x l with
      | some l2 => f l2 s
      | none => .bad) (wk.1.drop i) ls' S'), ⟨wk.1.length, rfl, φ1, S1, ls, Stp.refl, h.step st1 wd1, sG_step st1 g⟩, ?_⟩
    rintro i m σ' H' ⟨hm, φ', S', ls', st, h', g'⟩
    cases hx : wk.1.drop i with
    | nil =>
      rw [hx] at g'
      unfold forF at g'
      by_cases hst : stands wk.2 S'
      · rw [gdS_pos hst] at g'
        obtain ⟨_, stop⟩ := srv φ' S' H' z.B st h'.w (fun _ _ _ h => h) hst
        exact .inl ⟨stop i (by simpa using hx), sG_nx h' g'⟩
      · rw [gdS_neg hst] at g'; exact g'.elim
    | cons x xs =>
      rw [hx] at g'
      obtain ⟨hst, ef⟩ := forF_turn (sG_ne g')
      rw [ef] at g'
      obtain ⟨turn, _⟩ := srv φ' S' H' z.B st h'.w (fun _ _ _ h => h) hst
      have hxi : wk.1[i]? = some x := by
        have h0 : (wk.1.drop i)[0]? = some x := by rw [hx]; rfl
        rw [List.getElem?_drop] at h0
        exact h0
      have hil : i < wk.1.length := (List.getElem?_eq_some_iff.mp hxi).1
      have hxs : wk.1.drop (i + 1) = xs := by
        have h0 : (wk.1.drop i).drop 1 = xs := by rw [hx]; rfl
        rw [List.drop_drop] at h0
        exact h0
      obtain ⟨go, yl⟩ := turn i x hxi
      refine .inr ⟨go, fun σ2 H2 => ∃ φ2 S2 l2, Stp φ1 S1 H1 φ2 S2 H2 ∧ Here X.K z φ2 S2 l2 σ2 H2 ∧ sG X.K X.mg z W Dn φ2 S2 H2 (forF wk.2 (fun x l s => match a x l with
        | some l2 => f l2 s
        | none => .bad) xs l2 S2), fun σ2 H2 ⟨φ2, S2, l2, k1, k2, k3⟩ => ⟨m - 1, by omega, by omega, φ2, S2, l2, k1, k2, by rw [hxs]; exact k3⟩, fun xv H2 hy => ?_⟩
      obtain ⟨y1, y2, y3⟩ := yl xv H2 hy
      have h2 := h'.step y1 y2
      have g2 := sG_step y1 g'
      cases ea : a x ls' with
      | none => rw [ea] at g2; exact g2.elim
      | some l2 =>
        rw [ea] at g2
        refine ⟨φ', S', ls', x, l2, h2, y3, ea, fun σ3 h3 _ => ⟨φ', S', l2, h3, ?_⟩⟩
        dsimp only at g2
        have st3 := st.trans y1
        cases e : f l2 S' with
        | nx l4 S4 => rw [e] at g2; exact fun φ4 σ4 H4 st4 h4 => ⟨φ4, S4, l4, st3.trans st4, h4, sG_step st4 g2⟩
        | ct l4 S4 => rw [e] at g2; exact fun φ4 σ4 H4 st4 h4 => ⟨φ4, S4, l4, st3.trans st4, h4, sG_step st4 g2⟩
        | bk l4 S4 => rw [e] at g2; exact g2
        | rt d S4 => rw [e] at g2; exact g2
        | exc c fs l S4 => rw [e] at g2; exact g2
        | bad => rw [e] at g2; exact g2
/-! ### o[k] = v, into a list -/
theorem asg_sub {o i : Expr} {tp : Pos} {env : Env} (h : slic i = false) : ∀ v, assign (.Subscript o i tp) env v = (do
      let ov ← holding [v] (eval o env)
      let iv ← holding [v, ov] (eval i env)
      standAt tp
      holding [v, ov, iv] (setItem ov iv v)
      release [v, ov, iv] []) := by
  intro v
  cases i <;> first | rfl | (simp [slic] at h)
theorem ps_putD {o i e : Expr} {to ti te : Loc → Sto → Res D} {tp : Pos} (ho : PE X o (up X.K X.mg z W to)) (hi : PE X i (up X.K X.mg z W ti)) (he : PE X e (up X.K X.mg z W te)) (hs : swapsWithSole [.Subscript o i tp] e pos.line X.env = pure false) (hw : swappedStores [.Subscript o i tp] e X.env = pure none) (hsl : slic i = false) :
    PS X (.Assign [.Subscript o i tp] e pos) (upS X.K X.mg z W fun ls S => (te ls S).sd ls fun y S1 => (to ls S1).sd ls fun x S2 => (ti ls S2).sd ls fun k S3 => match putD S3 x k y with
      | some S4 => .nx ls S4
      | none => .bad) := PS.imp' (ps_asg he (pg_sub ho hi set_list (asg_sub hsl)) hs hw) fun Dn σ H h => by
  obtain ⟨φ, S, ls, h, g⟩ := h
  refine upS_sd h g fun y S1 φ1 H1 v st1 h1 r1 g1 => ?_
  refine upS_sd h1 g1 fun x S2 φ2 H2 u st2 h2 r2 g2 => ?_
  refine upS_sd h2 g2 fun k S3 φ3 H3 w st3 h3 r3 g3 => ?_
  cases e : putD S3 x k y with
  | none => rw [e] at g3; exact g3.elim
  | some S4 =>
    rw [e] at g3
    unfold putD at e
    cases x with
    | loc l =>
      dsimp only at e
      cases e1 : S3[l]? with
      | none => rw [e1] at e; cases e
      | some ob =>
        rw [e1] at e
        cases ob with
        | lst xs =>
          cases k with
          | int j =>
            dsimp only at e
            obtain ⟨jj, hj, rfl⟩ := Option.map_eq_some_iff.mp e
            cases r3
            have r2' := r2.step st3
            cases r2' with
            | loc ha =>
              obtain ⟨b, vs, hb, hH, hr⟩ := h3.w.loc e1
              rw [ha] at hb; cases hb
              have ry := (r1.step st2).step st3
              refine ⟨_, vs, j, jj, rfl, rfl, hH, by rw [← hr.length]; exact hj, ?_⟩
              have st : Stp φ3 S3 H3 φ3 (S3.set l (.lst (xs.set jj y))) (L2.upd H3 _ (.lst (vs.set jj v))) := Stp.put e1 (by simp) (by simp) ha hH
              exact g3 φ3 σ _ st (h3.step st (h3.w.put e1 (by simp) (by simp) ha hH (.lst (Reps.set ry jj hr))))
          | _ => cases e
        | dic _ _ => cases e
        | dead => cases e
    | _ => cases e
/-! ### a, b = x, y: from the right -/
def swN (sc : Scope) (ts : List Expr) : List Str := ts.filterMap fun
    | .Name id pos => if (sc.names.lookup id == some .local && pos.line == (ts.head?.map (·.pos.line)).getD 0) = true then some id else none
    | _ => none
def swC (sc : Scope) (ts vs : List Expr) : Option (Option (List Str)) :=
  if (!(ts.length == 2 || ts.length == 3) || vs.length != ts.length || ScopeKind.function != ScopeKind.function) = true then some none else
  if stars vs = true then some none else
  if ((swN sc ts).length != ts.length || (swN sc ts).eraseDups.length != (swN sc ts).length) = true then some none else
  if vs.all (foldedForSure 8) = true then some none else
  if vs.all (constantsAlone 8) = true then none else some (some (swN sc ts))
theorem swC_ok {sc : Scope} {env : Env} {ts vs : List Expr} {k k2 : Nat} {p p2 : Pos} {r : Option (List Str)} (he : env.scope = sc) (hk : sc.kind = .function) (h : swC sc ts vs = some r) : swappedStores [.Tuple ts k p] (.Tuple vs k2 p2) env = pure r := by
  have hb : env.blockKind = .function := by
    unfold Env.blockKind
    rw [he, hk]; rfl
  unfold swC at h
  unfold swappedStores
  simp only [hb, Env.kindOf, he]
  by_cases c1 : (!(ts.length == 2 || ts.length == 3) || vs.length != ts.length || ScopeKind.function != ScopeKind.function) = true
  · rw [if_pos c1] at h ⊢; cases h; rfl
  · rw [if_neg c1] at h ⊢
    have ev : ∀ f : Expr → Bool, (∀ e, f e = star e) → vs.any f = stars vs := fun f hf => by
      unfold stars
      congr 1
      funext e
      exact hf e
    rw [ev _ fun e => by cases e <;> rfl]
    by_cases c2 : stars vs = true
    · rw [if_pos c2] at h ⊢; cases h; rfl
    · rw [if_neg c2] at h ⊢
      have en : ∀ f : Expr → Option Str, (∀ e, f e = (match e with
        | .Name id pos => if (sc.names.lookup id == some .local && pos.line == (ts.head?.map (·.pos.line)).getD 0) = true then some id else none
        | _ => none)) → ts.filterMap f = swN sc ts := fun f hf => by
        unfold swN
        congr 1
        funext e
        rw [hf e]
      rw [en _ fun e => by cases e <;> rfl]
      by_cases c3 : ((swN sc ts).length != ts.length || (swN sc ts).eraseDups.length != (swN sc ts).length) = true
      · rw [if_pos c3] at h ⊢; cases h; rfl
      · rw [if_neg c3] at h ⊢
        by_cases c4 : vs.all (foldedForSure 8) = true
        · rw [if_pos c4] at h ⊢; cases h; rfl
        · rw [if_neg c4] at h ⊢
          by_cases c5 : vs.all (constantsAlone 8) = true
          · rw [if_pos c5] at h; cases h
          · rw [if_neg c5] at h ⊢; cases h; rfl
def tPar3 (i j l : Nat) (ta : TA) : TS := fun D σ H => ta σ H fun vs H1 => ∃ v w u, vs = [v, w, u] ∧ D.nx (((σ.set l (some u)).set j (some w)).set i (some v)) H1
theorem ps_par3 {i j l : Nat} {x y t : Str} {a b c : Expr} {ta : TA} {px py pz pt : Pos} {kt k2 pt2} (hc : X.calm = true) (hN : X.N.Nodup) (hi : X.N[i]? = some x) (hj : X.N[j]? = some y) (hl : X.N[l]? = some t)
    (hx : X.env.scope.names.lookup x = some .local) (hy : X.env.scope.names.lookup y = some .local) (ht : X.env.scope.names.lookup t = some .local) (ha : PA X [a, b, c] ta)
    (hw : swappedStores [.Tuple [.Name x px, .Name y py, .Name t pz] kt pt] (.Tuple [a, b, c] k2 pt2) X.env = pure (some [x, y, t]))
    (hs : swapsWithSole [.Tuple [.Name x px, .Name y py, .Name t pz] kt pt] (.Tuple [a, b, c] k2 pt2) pos.line X.env = pure false := by rfl) :
    PS X (.Assign [.Tuple [.Name x px, .Name y py, .Name t pz] kt pt] (.Tuple [a, b, c] k2 pt2) pos) (tPar3 i j l ta) := by
  refine ⟨fun pins s σ H D I h => ?_⟩
  rw [exec_Assign_arm]
  refine wpAny_bind (wpAny_standAt ?_)
  rw [hs]
  refine wpAny_bind (wpAny_pure ?_)
  rw [if_neg (by decide)]
  refine wpAny_bind (Tuple_ (thn (ha.run _ pins s σ H _ I h) fun us s1 ⟨vs, H1, I1, r1, q1⟩ => ?_))
  obtain ⟨v, w, u, e1, q1⟩ := q1
  subst e1
  obtain ⟨u1, u2, u3, rfl, rv, rw', ru⟩ : ∃ u1 u2 u3, us = [u1, u2, u3] ∧ RelV v u1 ∧ RelV w u2 ∧ RelV u u3 := by
    cases r1 with
    | cons p q =>
      cases q with
      | cons p' q' =>
        cases q' with
        | cons p2 q2 =>
          cases q2
          exact ⟨_, _, _, rfl, p, p', p2⟩
  refine wpAny_newObj_type ?_ (by show 3 ≤ sizeLine; decide)
  have I2 : Inv X pins σ H1 { s1 with heap := s1.heap.push { cls := .type "tuple", data := .seq [u1, u2, u3].toArray } } := I1.kept (t' := s1.toks) fun b o e => Heap.get?_push_of_some _ e
  rw [hw]
  refine wpAny_bind (wpAny_pure ?_)
  show wpAny (model X.prog X.w) X.A (do rule "assign.swapped-stores"; let items ← unpackItems (.ref s1.heap.objs.size) 3 none; assignInOrder [fun v => bindName X.env t v, fun v => bindName X.env y v, fun v => bindName X.env x v] items.reverse; pure Flow.next) _ _ _
  refine wpAny_bind (wpAny_rule (wpAny_bind (unpackItems_tuple (items := #[u1, u2, u3]) (I.ok.hd hc) (IsTup.new s1.heap _) fun h' hx' => ?_)))
  have I3 := I2.kept (h' := h') (t' := s1.toks) fun b o e => hx' b o (Nat.ne_of_lt (Heap.lt_size e)) e
  show wpAny _ _ (assignInOrder [fun v => bindName X.env t v, fun v => bindName X.env y v, fun v => bindName X.env x v] [u3, u2, u1] >>= fun _ => pure Flow.next) _ _ _
  refine wpAny_bind (assignInOrder_cons (wpAny_bindName (store_ok I3 hN hl (.inl ht) ru (fun s2 I4 => ?_) (.inr ht))))
  refine assignInOrder_cons (wpAny_bindName (store_ok I4 hN hj (.inl hy) rw' (fun s3 I5 => ?_) (.inr hy)))
  exact assignInOrder_cons (wpAny_bindName (store_ok I5 hN hi (.inl hx) rv (fun s4 I6 => assignInOrder_nil (wpAny_pure ⟨_, H1, I6, q1⟩)) (.inr hx)))
theorem ps_par2D {i j : Nat} {x y : Str} {a b : Expr} {ws : Loc → Sto → Res (List D)} {px py pt : Pos} {kt k2 : Nat} {pt2 : Pos} (hc : X.calm = true) (hN : X.N.Nodup) (hi : X.N[i]? = some x) (hj : X.N[j]? = some y) (hij : i ≠ j)
    (hx : X.env.scope.names.lookup x = some .local) (hy : X.env.scope.names.lookup y = some .local) (ha : PA X [a, b] (upA X.K X.mg z W ws))
    (hw : swappedStores [.Tuple [.Name x px, .Name y py] kt pt] (.Tuple [a, b] k2 pt2) X.env = pure (some [x, y])) :
    PS X (.Assign [.Tuple [.Name x px, .Name y py] kt pt] (.Tuple [a, b] k2 pt2) pos) (upS X.K X.mg z W fun ls S => (ws ls S).sd ls fun ds S1 => match setAll [i, j] ds ls with
    | some l2 => .nx l2 S1
    | none => .bad) := PS.imp' (ps_par hc hN hi hj hij hx hy ha hw) fun Dn σ H h => by
  obtain ⟨φ, S, ls, h, g⟩ := h
  refine upS_sdA h g fun ds S1 φ1 H1 vs st1 h1 r1 g1 => ?_
  rcases ds with _ | ⟨d1, _ | ⟨d2, _ | ⟨d3, ds⟩⟩⟩
  · exact g1.elim
  · exact g1.elim
  · obtain ⟨v, w, rfl, ra, rb⟩ := r1.two
    refine ⟨v, w, rfl, ?_⟩
    simp only [setAll, Option.bind_some] at g1
    by_cases hl : j < ls.length
    · rw [if_pos hl, Option.bind_some] at g1
      by_cases hl2 : i < (ls.set j (some d2)).length
      · rw [if_pos hl2] at g1
        rw [List.set_comm _ _ hij]
        exact sG_nx ((h1.set hl rb).set hl2 ra) g1
      · rw [if_neg hl2] at g1; exact g1.elim
    · rw [if_neg hl] at g1; exact g1.elim
  · have : setAll [i, j] (d1 :: d2 :: d3 :: ds) ls = none := by simp [setAll]
    rw [this] at g1; exact g1.elim
theorem Reps.three {K : PySem.W.Frag} {L : Addr → Prop} {d e f : D} {vs : List V} (r : Reps K φ L H [d, e, f] vs) : ∃ v u w, vs = [v, u, w] ∧ Rep K φ L H d v ∧ Rep K φ L H e u ∧ Rep K φ L H f w := by
  cases r with
  | cons a b => obtain ⟨u, w, rfl, c, e⟩ := b.two; exact ⟨_, _, _, rfl, a, c, e⟩
theorem ps_par3D {i j l : Nat} {x y t : Str} {a b c : Expr} {ws : Loc → Sto → Res (List D)} {px py pz pt : Pos} {kt k2 : Nat} {pt2 : Pos} (hc : X.calm = true) (hN : X.N.Nodup) (hi : X.N[i]? = some x) (hj : X.N[j]? = some y) (hl : X.N[l]? = some t)
    (hx : X.env.scope.names.lookup x = some .local) (hy : X.env.scope.names.lookup y = some .local) (ht : X.env.scope.names.lookup t = some .local) (ha : PA X [a, b, c] (upA X.K X.mg z W ws))
    (hw : swappedStores [.Tuple [.Name x px, .Name y py, .Name t pz] kt pt] (.Tuple [a, b, c] k2 pt2) X.env = pure (some [x, y, t])) :
    PS X (.Assign [.Tuple [.Name x px, .Name y py, .Name t pz] kt pt] (.Tuple [a, b, c] k2 pt2) pos) (upS X.K X.mg z W fun ls S => (ws ls S).sd ls fun ds S1 => match setAll [i, j, l] ds ls with
    | some l2 => .nx l2 S1
    | none => .bad) := PS.imp' (ps_par3 hc hN hi hj hl hx hy ht ha hw) fun Dn σ H h => by
  obtain ⟨φ, S, ls, h, g⟩ := h
  refine upS_sdA h g fun ds S1 φ1 H1 vs st1 h1 r1 g1 => ?_
  rcases ds with _ | ⟨d1, _ | ⟨d2, _ | ⟨d3, _ | ⟨d4, ds⟩⟩⟩⟩
  · exact g1.elim
  · exact g1.elim
  · have : setAll [i, j, l] [d1, d2] ls = none := by simp [setAll]
    rw [this] at g1; exact g1.elim
  · obtain ⟨v, w, u, rfl, ra, rb, rc⟩ := Reps.three r1
    refine ⟨v, w, u, rfl, ?_⟩
    simp only [setAll, Option.bind_some] at g1
    by_cases k1 : l < ls.length
    · rw [if_pos k1, Option.bind_some] at g1
      by_cases k2 : j < (ls.set l (some d3)).length
      · rw [if_pos k2, Option.bind_some] at g1
        by_cases k3 : i < ((ls.set l (some d3)).set j (some d2)).length
        · rw [if_pos k3] at g1
          exact sG_nx (((h1.set k1 rc).set k2 rb).set k3 ra) g1
        · rw [if_neg k3] at g1; exact g1.elim
      · rw [if_neg k2] at g1; exact g1.elim
    · rw [if_neg k1] at g1; exact g1.elim
  · have : setAll [i, j, l] (d1 :: d2 :: d3 :: d4 :: ds) ls = none := by simp [setAll]
    rw [this] at g1; exact g1.elim
/-! ### raise -/
theorem zip_lookup : ∀ {fl : List String} {ds : List D} {f : String} {d : D}, (fl.zip ds).lookup f = some d → ∃ i : Nat, fl[i]? = some f ∧ ds[i]? = some d
  | [], _, _, _, h => by simp at h
  | _ :: _, [], _, _, h => by simp at h
  | g :: fl, e :: ds, f, d, h => by
    rw [List.zip_cons_cons, List.lookup_cons] at h
    by_cases hfg : (f == g) = true
    · rw [hfg] at h
      cases h
      exact ⟨0, by rw [beq_iff_eq.mp hfg]; rfl, rfl⟩
    · rw [Bool.eq_false_iff.mpr hfg] at h
      obtain ⟨i, h1, h2⟩ := zip_lookup h
      exact ⟨i + 1, by simpa using h1, by simpa using h2⟩
theorem ps_raiD {c : String} {fl : List String} {e : Expr} {es : List Expr} {ws : Loc → Sto → Res (List D)} {p : Pos} (hc : X.calm = true) (tk : Takes X W) (hr : Room 3 X.A) (T : ErrOk X.prog X.w X.K X.mg X.base c fl) (hg : Gl X (Str.ofString c)) (hdb : (Str.ofString c == ("__debug__" : Str)) = false)
    (ha : PA X (e :: es) (upA X.K X.mg z W ws)) (he : starEach (e :: es) X.env = (false, eval e X.env) :: starEach es X.env) (hpl : (backTo pos (starEach es X.env)).any (·.1) = false) {rp : Pos} :
    PS X (.Raise (some (.Call (.Name (Str.ofString c) p) (e :: es) [] pos)) none rp) (upS X.K X.mg z W fun ls S => (ws ls S).sd ls fun ds S1 => if ds.length = fl.length ∧ ds.length ≤ 2 ∧ 0 < ds.length then .exc c (fl.zip ds) ls S1 else .bad) := by
  obtain ⟨C, fI, fd, hm, hO, hI, hT, hk, F, hb, hX, hF⟩ := T.ex
  refine PS.imp' (ps_raise hc tk (pmk_oex (dvs := []) (ds := []) hO hI hT F hr hb .nil (fun _ _ _ _ _ _ _ h => h.elim) hg hm ha hdb he hpl)) fun Dn σ H h => ?_
  obtain ⟨φ, S, ls, h, g⟩ := h
  refine upS_sdA h g fun ds S1 φ1 H1 vs st1 h1 r1 g1 => ?_
  by_cases hl : ds.length = fl.length ∧ ds.length ≤ 2 ∧ 0 < ds.length
  · rw [if_pos hl] at g1
    refine ⟨by rw [← r1.length]; omega, fun a hna => ?_⟩
    refine ⟨a, vs ++ [], rfl, by rw [List.append_nil, ← r1.length]; exact hl.1, fun h0 => ?_, upd_same, fun d gs hnd hda hgs => ⟨rfl, d, gs, upd_same, ?_, ?_, ?_⟩⟩
    · have h2 := hl.1
      rw [h0, List.length_nil] at h2; omega
    · rw [upd_ne hda, upd_same]
    · rw [upd_ne hda] at hnd; exact hnd
    · rw [upd_ne hda] at hnd
      have eH : L2.upd (del (L2.upd (L2.upd (L2.upd H1 a (exo a C none)) d (exd d gs)) a (exo a C (some d))) a) d (.xd gs) = L2.upd H1 d (.xd gs) := by
        funext b
        by_cases hb : b = d
        · subst hb; rw [upd_same, upd_same]
        · rw [upd_ne hb, upd_ne hb]
          by_cases hba : b = a
          · subst hba
            rw [hna]
            simp [del]
          · simp only [del, if_neg hba]
            rw [upd_ne hba, upd_ne hb, upd_ne hba]
      rw [eH]
      refine g1 φ1 σ _ _ _ (h1.st.trans (Stp.upd hnd)) (h1.w.upd hnd) ⟨C, d, gs, hm, rfl, rfl, upd_same, fun f d' hf => ?_⟩
      obtain ⟨i, k1, k2⟩ := zip_lookup hf
      obtain ⟨v, hv, rv⟩ := r1.get k2
      exact ⟨v, hgs i f v k1 (by rw [List.append_nil]; exact hv), rv.step (Stp.upd hnd)⟩
  · rw [if_neg hl] at g1; exact g1.elim
end
end Ev
/-! Ev21: a name set to a comprehension; try. -/
namespace Ev
open PySem PySem.Spec PyProof.Rows L2

section
variable {X : Cx} {z : W0} {W : WX} {φ : List Addr} {S : Sto} {H : Hp} {σ : L2.St} {pos : Pos} {Dn : Ends}
theorem up_mono {K : PySem.W.Frag} {mg : Str → Option Value} {w : Loc → Sto → Res D} {Q Q' : VK} (h : up K mg z W w σ H Q) (i : ∀ v H, Q v H → Q' v H) : up K mg z W w σ H Q' := by
  obtain ⟨φ, S, ls, h, g⟩ := h
  refine ⟨φ, S, ls, h, ?_⟩
  cases e : w ls S with
  | bad => rw [e] at g; exact g
  | exc c fs S' => rw [e] at g; exact g
  | ok d S1 => rw [e] at g; exact fun φ' H' v st wd r => i _ _ (g φ' H' v st wd r)
theorem old_up {K : PySem.W.Frag} {mg : Str → Option Value} {w : Loc → Sto → Res D} {Q : VK} (h : up K mg z W w σ H Q) : upN K mg z W w σ H Q := by
  obtain ⟨φ, S, ls, h, g⟩ := h
  try dsimp only at g
  refine ⟨φ, S, ls, h, ?_⟩
  cases e2 : w ls S with
  | bad => rw [e2] at g; exact g
  | exc c fs S' => rw [e2] at g; exact g
  | ok d S2 =>
    rw [e2] at g
    cases d with
    | lst xs => exact fun φ1 H1 p vs st wd r hp => g φ1 _ _ (st.trans (Stp.upd hp)) (wd.upd hp) (Rep.newLst wd r hp)
    | _ => exact g
def liveF (w : Loc → Sto → Res D) : Loc → Sto → Res D := fun ls S => (w ls S).bd fun d S1 => match d with
    | .lst xs => .ok (.loc S1.length) (S1 ++ [.lst xs])
    | _ => .bad
theorem live_up {K : PySem.W.Frag} {mg : Str → Option Value} {w : Loc → Sto → Res D} {Q : VK} (h : up K mg z W (liveF w) σ H Q) : upN K mg z W w σ H Q := by
  obtain ⟨φ, S, ls, h, g⟩ := h
  unfold liveF at g
  try dsimp only at g
  refine ⟨φ, S, ls, h, ?_⟩
  cases e2 : w ls S with
  | bad => rw [e2] at g; exact g
  | exc c fs S' => rw [e2] at g; exact g
  | ok d S2 =>
    rw [e2] at g
    cases d with
    | lst xs =>
      intro φ1 H1 p vs st wd r hp
      refine g (φ1 ++ [p]) _ _ (st.trans (Stp.newLoc wd.len hp)) (wd.newLoc hp (.lst r)) (.loc ?_)
      rw [← wd.len]; exact get_snoc_r
    | _ => exact g.elim
/-- name = [..], the name a local, on one line -/
theorem ps_setLcD {i : Nat} {y : Str} {py : Pos} {lv : Bool} {cx : Cxt} {tg : Tg} {own : List (Str × Nat)} {wi : Loc → Sto → Res Wk} {wc : Option (Loc → Sto → Res D)} {we : Loc → Sto → Res D} {elt tgE iter : Expr} {ifs : List Expr} {scope : Scope} {tt : TT} {spos : Pos} (hc : X.calm = true) (hN : X.N.Nodup)
    (hy : X.N[i]? = some y) (hyl : X.env.scope.names.lookup y = some .local) (hsw : swapsWith (.ListComp elt [⟨tgE, iter, ifs, 0⟩] scope pos) (some (.Name y py)) spos.line X.env = pure true)
    (hix : ∀ i ∈ tgIx tg, i ∈ own.map (·.2)) (htt : tt = match wc with
    | none => tYes
    | some c => exT X.K X.mg c) (hi : PI X tgE iter (upI X.K X.mg z W wi)) (ok : BlkOk X.N X.env.scope scope own)
    (hg : ∀ (s : Shared) (H : Hp) (C : Addr) (cl : List (Str × Addr)) (fp : List Addr), PG (X.blk s H scope (compEnvC scope cl C X.env) fp) tgE (exG X.K (tgIx tg) (asg tg)))
    (ht : ∀ (s : Shared) (H : Hp) (C : Addr) (cl : List (Str × Addr)) (fp : List Addr), PTs (X.blk s H scope (compEnvC scope cl C X.env) fp) ifs tt)
    (he : ∀ (s : Shared) (H : Hp) (C : Addr) (cl : List (Str × Addr)) (fp : List Addr), PE (X.blk s H scope (compEnvC scope cl C X.env) fp) elt (exP X.K X.mg we)) (hs : ∀ x, foldedSetIterable iter X.env x = pure x) {wN wO : Loc → Sto → Res D}
    (hw : wN = fun ls S => (wi ls S).bd fun w S1 => (compF w.2 (turnF cx tg (own.map (·.2)) ls wc we) w.1 [] S1).nox.bd fun acc S2 => .ok (.lst acc) S2) (hO : wO = if lv = true then liveF wN else wN) :
    PS X (.Assign [.Name y py] (.ListComp elt [⟨tgE, iter, ifs, 0⟩] scope pos) spos) (upS X.K X.mg z W fun ls S => (wO ls S).sd ls fun d S1 => match (if i < ls.length then some (ls.set i (some d)) else none) with
      | some l2 => .nx l2 S1
      | none => .bad) := PS.imp' (ps_setLc hc hN hy hyl hsw hi ok hg ht he hs) fun Dn σ H h => by
  have h1 : up X.K X.mg z W wO σ H fun x H1 => gName i x σ H1 Dn.nx := up_mono (tAsg_up (is := [i]) (f := fun d ls => if i < ls.length then some (ls.set i (some d)) else none) h) fun v H q => gName_up q
  have h2 : upN X.K X.mg z W wN σ H fun x H1 => gName i x σ H1 Dn.nx := by
    subst hO
    cases lv with
    | true => rw [if_pos rfl] at h1; exact live_up h1
    | false => rw [if_neg Bool.false_ne_true] at h1; exact old_up h1
  subst hw
  exact lc_up hix htt h2

/-! ### try: .. except X as n: return (.., n.f, ..) -/
structure HotW (K : PySem.W.Frag) (z : W0) (a : Addr) (cls : Value) (dd : Option Addr) (i : Nat) (σ : L2.St) (H : Hp) (φ : List Addr) (S : Sto) (fs : List (String × D)) : Prop where
  st : Stp z.φ z.S z.H φ S H
  w : Wld K φ S H z.B
  sl : i < σ.length → σ[i]? = some (some (.ref a))
  ex : ∃ (C d : Addr) (gs : List (Str × V)), cls = .ref C ∧ dd = some d ∧ XfC K C ∧ H d = some (.xd gs) ∧ ∀ f d', fs.lookup f = some d' → PySem.W.findIn K (.ref C) (Str.ofString f) = some none ∧ ∃ v, gs.lookup (Str.ofString f) = some v ∧ Rep K φ (LB φ S z.B) H d' v
def hotE (K : PySem.W.Frag) (z : W0) (a : Addr) (cls : Value) (dd : Option Addr) (i : Nat) (w : List (String × D) → Option D) : TE := fun σ H Q => ∃ φ S fs d, HotW K z a cls dd i σ H φ S fs ∧ w fs = some d ∧ ∀ v, Rep K φ (LB φ S z.B) H d v → Q v H
def hotA (K : PySem.W.Frag) (z : W0) (a : Addr) (cls : Value) (dd : Option Addr) (i : Nat) (w : List (String × D) → Option (List D)) : TA := fun σ H Q => ∃ φ S fs ds, HotW K z a cls dd i σ H φ S fs ∧ w fs = some ds ∧ ∀ vs, Reps K φ (LB φ S z.B) H ds vs → Q vs H
theorem con_val {d : D} {c : Const} {k : Nat} (h : conB d c = true) : ∃ v, PE X (.Constant c k pos) (fun _ H Q => Q v H) ∧ ∀ K φ L H, Rep K φ L H d v := by
  unfold conB at h
  split at h
  · exact ⟨_, pe_non, fun _ _ _ _ => .non⟩
  · rename_i b b'
    have e : b = b' := by simpa using h
    subst e
    exact ⟨_, pe_bl, fun _ _ _ _ => .bl b⟩
  · rename_i i j
    have e : i = j := by simpa using h
    subst e
    exact ⟨_, pe_int, fun _ _ _ _ => .int i⟩
  · rename_i s x
    have e : s = x.cps.toList := by simpa using h
    subst e
    exact ⟨_, pe_str, fun _ _ _ _ => .str x.cps.toList⟩
  · cases h
theorem hot_con {d : D} {c : Const} {k : Nat} {a : Addr} {cls : Value} {dd : Option Addr} {i : Nat} (h : conB d c = true) : PE X (.Constant c k pos) (hotE X.K z a cls dd i fun _ => some d) := by
  obtain ⟨v, p, r⟩ := con_val (X := X) (k := k) (pos := pos) h
  refine p.imp' fun σ H Q q => ?_
  obtain ⟨φ, S, fs, d', hw, e, q⟩ := q
  cases e
  exact q v (r _ _ _ _)
theorem hot_exf {a : Addr} {oe : Obj} {cls : Value} {dd : Option Addr} {pn : List (Addr × Obj)} {i : Nat} {x : Str} {f : String} {np : Pos} (hN : X.N[i]? = some x) (hv : Vis X.env.scope x) (hd : (x == ("__debug__" : Str)) = false) (hcd : (x == ("__classdict__" : Str)) = false)
    (hz : Zc cls dd oe) (hf : ∃ vs, oe.data = .fields vs) : PE (X.suite a ((a, oe) :: pn)) (.Attribute (.Name x np) (Str.ofString f) pos) (hotE X.K z a cls dd i fun fs => fs.lookup f) := ⟨fun pins s σ H Q I q => by
  obtain ⟨φ, S, fs, d, hw, e, q⟩ := q
  obtain ⟨C, da, gs, e1, e2, hX, hH, hl⟩ := hw.ex
  obtain ⟨k1, v, k2, k3⟩ := hl f d e
  refine (pe_xf (X := X) (a := a) (n := Str.ofString f) hX k1 hz hf (pe_var (X := X.suite a ((a, oe) :: pn)) (i := i) hN hv hd hcd) rfl).run pins s σ H Q I ?_
  have hil : i < σ.length := by rw [I.len]; exact (List.getElem?_eq_some_iff.mp hN).1
  exact ⟨_, hw.sl hil, rfl, e1, da, gs, v, e2, hH, k2, q v k3⟩⟩
theorem hotA_nil {a : Addr} {cls : Value} {dd : Option Addr} {i : Nat} : PA X [] (hotA X.K z a cls dd i fun _ => some []) := pa_nil.imp' fun σ H Q q => by
  obtain ⟨φ, S, fs, ds, hw, e, q⟩ := q
  cases e
  exact q [] .nil
theorem hotA_cons {a : Addr} {cls : Value} {dd : Option Addr} {i : Nat} {e : Expr} {es : List Expr} {w : List (String × D) → Option D} {ws : List (String × D) → Option (List D)} (h1 : PE X e (hotE X.K z a cls dd i w)) (h2 : PA X es (hotA X.K z a cls dd i ws)) (hs : star e = false) :
    PA X (e :: es) (hotA X.K z a cls dd i fun fs => match w fs, ws fs with
      | some d, some ds => some (d :: ds)
      | _, _ => none) := (pa_cons h1 h2 (star_each hs _ _)).imp' fun σ H Q q => by
  obtain ⟨φ, S, fs, ds, hw, e, q⟩ := q
  dsimp only at e
  split at e
  · rename_i d ds' k1 k2
    cases e
    exact ⟨φ, S, fs, d, hw, k1, fun v rv => ⟨φ, S, fs, ds', hw, k2, fun vs rvs => q (v :: vs) (.cons rv rvs)⟩⟩
  · cases e
/-- the suite -/
def hotS (K : PySem.W.Frag) (z : W0) (a : Addr) (cls : Value) (dd : Option Addr) (i : Nat) (w : List (String × D) → Option (List D)) : TS := fun Dn σ H => ∃ φ S fs ds, HotW K z a cls dd i σ H φ S fs ∧ w fs = some ds ∧ ds.length ≤ 16777216 ∧
  ∀ φ' H' v, Stp z.φ z.S z.H φ' S H' → Wld K φ' S H' z.B → Rep K φ' (LB φ' S z.B) H' (.tup ds) v → Dn.rt v H'
theorem hot_ret {a : Addr} {cls : Value} {dd : Option Addr} {i k : Nat} {es : List Expr} {w : List (String × D) → Option (List D)} {p2 : Pos} (h : PA X es (hotA X.K z a cls dd i w)) : PSs X [.Return (some (.Tuple es k pos)) p2] (hotS X.K z a cls dd i w) :=
  PSs.imp' (pss_one (ps_ret (pe_tupF h))) fun Dn σ H q => by
    obtain ⟨φ, S, fs, ds, hw, e, hl, q⟩ := q
    refine ⟨φ, S, fs, ds, hw, e, fun vs r => ⟨by rw [← r.length, sz_eq]; exact hl, fun p o hp hd => ?_⟩⟩
    exact q φ _ _ (hw.st.trans (Stp.upd hp)) (hw.w.upd hp) (Rep.newTup hw.w r hp hd)
theorem lookup_mem : ∀ {l : List (String × D)} {f : String} {d : D}, l.lookup f = some d → (f, d) ∈ l
  | [], _, _, h => by simp at h
  | (g, e) :: l, f, d, h => by
    rw [List.lookup_cons] at h
    by_cases hfg : (f == g) = true
    · rw [hfg] at h
      cases h
      rw [beq_iff_eq.mp hfg]; exact List.mem_cons_self
    · rw [Bool.eq_false_iff.mpr hfg] at h
      exact List.mem_cons_of_mem _ (lookup_mem h)
theorem xok_h {fld : String → List String} {c : String} {fs : List (String × D)} (h : xok fld c fs = true) : fld c ≠ [] ∧ ∀ p ∈ fs, p.1 ∈ fld c := by
  unfold xok at h
  simp only [Bool.and_eq_true, Bool.not_eq_true', List.all_eq_true, decide_eq_true_eq] at h
  exact ⟨fun e => by rw [e] at h; simp at h, h.2⟩
theorem try_fin {G : Glo} {i : Nat} {C0 : Addr} {c c' : String} {fs : List (String × D)} {l1 : Loc} {S1 : Sto} {w : List (String × D) → Option (List D)}
    (hsb : ∀ c' C', G.fld c' ≠ [] → X.mg (Str.ofString c') = some (.ref C') → PySem.W.exmOne X.K (.ref C') (.ref C0) = some (G.sub c' c))
    (her : ∀ c', G.fld c' ≠ [] → ErrOk X.prog X.w X.K X.mg X.base c' (G.fld c')) (hfl : G.fld c' ≠ []) (hfs : ∀ p ∈ fs, p.1 ∈ G.fld c') (g : sG X.K X.mg z W Dn φ S H (if G.sub c' c = true then (match w fs with
        | some ds => if ds.length ≤ 16777216 then .rt (.tup ds) S1 else .bad
        | none => .bad) else .exc c' fs l1 S1)) : sEx X.K X.mg z (wAs X.K (.ref C0) i (fun a cls d => hotS X.K z a cls d i w) W Dn) S1 c' fs := by
  intro φ' σ' H' cls dd st wd ex
  obtain ⟨C', da, gs, m1, e1, e2, hH, hl⟩ := ex
  refine ⟨G.sub c' c, by rw [e1]; exact hsb c' C' hfl m1, fun hsub a hna => ?_, fun hsub => ?_⟩
  · rw [if_pos hsub] at g
    cases ew : w fs with
    | none => rw [ew] at g; exact g.elim
    | some ds =>
      rw [ew] at g
      dsimp only at g
      by_cases hlen : ds.length ≤ 16777216
      · rw [if_pos hlen] at g
        obtain ⟨C2, fI, fd, m2, _, _, _, _, _, _, hX, hF⟩ := (her c' hfl).ex
        rw [m1] at m2; cases m2
        refine ⟨φ', S1, fs, ds, ⟨st, wd, ?_, C', da, gs, e1, e2, hX, hH, fun f d' hfd => ?_⟩, ew, hlen, fun φ2 H2 v => g φ2 H2 v⟩
        · exact fun hl => by rw [List.getElem?_set_self (by simpa using hl)]
        · obtain ⟨v, k1, k2⟩ := hl f d' hfd
          exact ⟨hF f (hfs (f, d') (lookup_mem hfd)), v, k1, k2⟩
      · rw [if_neg hlen] at g; exact g.elim
  · rw [if_neg (by rw [hsub]; exact Bool.false_ne_true)] at g
    exact g φ' σ' H' cls dd st wd ⟨C', da, gs, m1, e1, e2, hH, hl⟩
/-- try: .. except x as n: return (..) -/
theorem ps_tryD {G : Glo} {i : Nat} {x n : Str} {C0 : Addr} {c : String} {body : List Stmt} {es : List Expr} {k : Nat} {p2 p3 np pos' : Pos} {f : Loc → Sto → SR} {w : List (String × D) → Option (List D)} (hs : X.stack = X.env :: X.outer) (hf : X.env.frame = some X.env.locals) (hN : X.N.Nodup) (hi : X.N[i]? = some n) (hln : X.env.scope.names.lookup n = some .local)
    (hx : x = Str.ofString c) (hg : Gl X x) (hdb : (x == ("__debug__" : Str)) = false) (hm : X.mg x = some (.ref C0)) (tk : Takes X W)
    (hsb : ∀ c' C', G.fld c' ≠ [] → X.mg (Str.ofString c') = some (.ref C') → PySem.W.exmOne X.K (.ref C') (.ref C0) = some (G.sub c' c))
    (her : ∀ c', G.fld c' ≠ [] → ErrOk X.prog X.w X.K X.mg X.base c' (G.fld c'))
    (hb : ∀ (W' : WX) (pn : List (Addr × Obj)) (xe : Value → Shared → Prop), Takes (X.tr pn xe) W' → PassesOwn (model X.prog X.w) X.A X.env xe → PSs (X.tr pn xe) body (upS X.K X.mg z W' f))
    (hsu : ∀ (a : Addr) (oe : Obj) (cls : Value) (d : Option Addr) (pn : List (Addr × Obj)), Zc cls d oe → (∃ vs, oe.data = .fields vs) → PA (X.suite a ((a, oe) :: pn)) es (hotA X.K z a cls d i w)) :
    PS X (.Try body [.ExceptHandler (some (.Name x np)) (some n) [.Return (some (.Tuple es k p2)) p3] pos'] [] [] pos) (upS X.K X.mg z W fun ls S => match f ls S with
      | .exc c' fs l1 S1 => if xok G.fld c' fs = true then (if G.sub c' c = true then (match w fs with
        | some ds => if ds.length ≤ 16777216 then .rt (.tup ds) S1 else .bad
        | none => .bad) else .exc c' fs l1 S1) else .bad
      | r => r) := by
  refine PS.imp' (ps_try_as (c := .ref C0) (ts := fun a cls d => hotS X.K z a cls d i w) hs hf hN hi hln ⟨hg, hdb, .inl hm⟩ tk hb fun a oe cls d pn h1 h2 => hot_ret (X := X.suite a ((a, oe) :: pn)) (hsu a oe cls d pn h1 h2)) fun Dn σ H h => ?_
  obtain ⟨φ, S, ls, h, g⟩ := h
  refine ⟨φ, S, ls, h, ?_⟩
  dsimp only at g
  cases e : f ls S with
  | nx l2 S2 => rw [e] at g; exact g
  | ct l2 S2 => rw [e] at g; exact g
  | bk l2 S2 => rw [e] at g; exact g
  | rt d S2 => rw [e] at g; exact g
  | bad => rw [e] at g; exact g
  | exc c' fs l1 S1 =>
    rw [e] at g
    dsimp only at g
    by_cases hk : xok G.fld c' fs = true
    · rw [if_pos hk] at g
      obtain ⟨hfl, hfs⟩ := xok_h hk
      exact try_fin hsb her hfl hfs g
    · rw [if_neg hk] at g; exact g.elim
end
end Ev
/-! Ev22: the look at statements and what it gives. -/
namespace Ev
open PySem PySem.Spec PyProof.Rows L2

def isCmp : Expr → Bool
  | .ListComp _ _ _ _ => true
  | .SetComp _ _ _ _ => true
  | .DictComp _ _ _ _ _ => true
  | _ => false
def swW (k : Kc) (scope : Scope) (t : Str) (pl vl : Nat) : Bool := k.lk t == some .local && pl == vl && !(scope.names.any fun (n, kk) => n == t && (kk == .local || kk == .cell))
def isComp : CE → Bool
  | .comp _ _ _ _ _ => true
  | .live (.comp _ _ _ _ _) => true
  | _ => false
/-- the plain names that stand on the left -/
def nmsC (k : Kc) : List Nat → List Expr → List Str → Bool
  | [], [], [] => true
  | i :: is, .Name x _ :: ts, y :: ys => decide (x = y) && decide (k.N[i]? = some x) && decide (k.lk x = some .local) && nmsC k is ts ys
  | _, _, _ => false
def hotC (i : Nat) (n : Str) : CL → List Expr → Bool
  | .nil, [] => true
  | .cons (.con d) es, .Constant c _ _ :: Es => conB d c && hotC i n es Es
  | .cons (.exf j f) es, .Attribute (.Name x _) m _ :: Es => decide (j = i) && decide (x = n) && decide (m = Str.ofString f) && hotC i n es Es
  | _, _ => false
def opts : List Nat → Bool
  | [i, j] => decide (i ≠ j)
  | [_, _, _] => true
  | _ => false
mutual
def chkS (G : Glo) (k : Kc) : CS → Stmt → Bool
  | .expr e, s => (match s with
    | .Expr E _ => !isCmp E && chkE G k e E
    | _ => false)
  | .set tg e, s => (match s with
    | .Assign [T] E pos => chkT k tg T && chkE G k e E && (match T with
      | .Name y py => (match E with
        | .ListComp _ _ scope cp => if swW k scope y py.line cp.line = true then isComp e else true
        | _ => !isCmp E)
      | .Tuple Ts _ _ => !isCmp E && (match E with
        | .Tuple Vs _ _ => decide (swC k.sc Ts Vs = some none)
        | _ => true)
      | _ => false)
    | _ => false)
  | .par is es, s => (match s with
    | .Assign [.Tuple Ts _ _] (.Tuple Vs _ _) _ => opts is && !stars Vs && chkL G k es Vs && (match swC k.sc Ts Vs with
      | some (some ns) => nmsC k is Ts ns && decide (Vs.length = is.length)
      | _ => false)
    | _ => false)
  | .put o i v, s => (match s with
    | .Assign [.Subscript O I _] V _ => !isCmp V && !slic I && chkE G k o O && chkE G k i I && chkE G k v V
    | _ => false)
  | .aug _ _ _, _ => false
  | .augs _ _ _ _, _ => false
  | .ifs c a b, s => (match s with
    | .If C A B _ => chkE G k c C && chkB G k a A && chkB G k b B
    | _ => false)
  | .whl c b, s => (match s with
    | .While C B [] _ => chkE G k c C && chkB G k b B
    | _ => false)
  | .for_ tg it b, s => (match s with
    | .For T I B [] _ => chkT k tg T && chkI G k it T I && chkB G k b B
    | _ => false)
  | .ret e, s => (match s with
    | .Return (some E) _ => chkE G k e E
    | _ => false)
  | .retn, s => (match s with
    | .Return none _ => true
    | _ => false)
  | .brk, s => (match s with
    | .Break _ => true
    | _ => false)
  | .cnt, s => (match s with
    | .Continue _ => true
    | _ => false)
  | .pas, s => (match s with
    | .Pass _ => true
    | _ => false)
  | .any, _ => true
  | .rai c es, s => (match s with
    | .Raise (some (.Call (.Name x _) (E :: Es) [] _)) none _ => decide (x = Str.ofString c) && k.gl x && dbg x && !(G.fld c).isEmpty && !stars (E :: Es) && chkL G k es (E :: Es)
    | _ => false)
  | .tryr b c i es, s => (match s with
    | .Try B [.ExceptHandler (some (.Name x _)) (some n) [.Return (some (.Tuple Es _ _)) _] _] [] [] _ => decide (x = Str.ofString c) && k.gl x && dbg x && !(G.fld c).isEmpty && decide (k.N[i]? = some n) && decide (k.lk n = some .local) && dbg n && chkB G k b B && hotC i n es Es
    | _ => false)
def chkB (G : Glo) (k : Kc) : CB → List Stmt → Bool
  | .nil, [] => true
  | .cons s b, S :: B => chkS G k s S && chkB G k b B
  | _, _ => false
end
section
variable {G : Glo} {cal : String → List D → Sto → Res D} {n : Nat}
/-- a def's body -/
structure Xs (X : Cx) (G : Glo) (cal : String → List D → Sto → Res D) (k : Kc) (n : Nat) (W : WX) : Prop extends Xk X G cal k n W where
  st : X.stack = X.env :: X.outer
  hf : X.env.frame = some X.env.locals
  po : PassesOwn (model X.prog X.w) X.A X.env X.xe
  r3 : 3 ≤ n
theorem sw_no {e : Expr} (h : isCmp e = false) (t : Option Expr) (ln : Nat) (env : Env) : swapsWith e t ln env = pure false := by
  cases e <;> first | rfl | (simp [isCmp] at h)
theorem sw_lc {k : Kc} {env : Env} (hs : env.scope = k.sc) (hk : k.sc.kind = .function) {elt : Expr} {gens : List Comprehension} {scope : Scope} {p py : Pos} {t : Str} {ln : Nat} : swapsWith (.ListComp elt gens scope p) (some (.Name t py)) ln env = pure (swW k scope t py.line p.line) := by
  have hb : env.blockKind = .function := by
    unfold Env.blockKind
    rw [hs, hk]; rfl
  unfold swapsWith swW Kc.lk
  simp only [hb, Env.kindOf, hs]
  rfl
theorem comp_inv {k : Kc} {own : List Nat} {tg : Tg} {it : CI} {ifs : CO} {elt : CE} {E : Expr} (h : chkE G k (.comp own tg it ifs elt) E = true) : ∃ X T I ifs' scope pos, E = .ListComp X [⟨T, I, ifs', 0⟩] scope pos ∧ blkC k scope own = true ∧ (∀ i ∈ tgIx tg, i ∈ own) ∧ chkI G k it T I = true ∧
    chkT ⟨k.N, relS scope k.sc, scope⟩ tg T = true ∧ chkE G ⟨k.N, relS scope k.sc, scope⟩ elt X = true ∧ chkF G ⟨k.N, relS scope k.sc, scope⟩ ifs ifs' = true := by
  simp only [chkE] at h
  split at h
  · simp only [Bool.and_eq_true, decide_eq_true_eq, List.all_eq_true] at h
    obtain ⟨⟨⟨⟨⟨⟨rfl, h1⟩, h2⟩, h3⟩, h4⟩, h5⟩, h6⟩ := h
    exact ⟨_, _, _, _, _, _, rfl, h1, h2, h3, h4, h5, h6⟩
  · cases h
theorem ok_setLc {X : Cx} {k : Kc} {W : WX} (x : Xk X G cal k n W) (z : W0) {own : List Nat} {tg : Tg} {it : CI} {ifs : CO} {elt : CE} {i : Nat} {y : Str} {py pos spos : Pos} {scope : Scope} {eX : Expr} {gens : List Comprehension} (lv : Bool) (h : chkE G k (.comp own tg it ifs elt) (.ListComp eX gens scope pos) = true) (hi : k.N[i]? = some y) (hsw : swW k scope y py.line pos.line = true) :
    PS X (.Assign [.Name y py] (.ListComp eX gens scope pos) spos) (upS X.K X.mg z W fun ls S => (ev (G.cx cal) (if lv = true then .live (.comp own tg it ifs elt) else .comp own tg it ifs elt) false ls S).sd ls fun d S1 => match (if i < ls.length then some (ls.set i (some d)) else none) with
      | some l2 => .nx l2 S1
      | none => .bad) := by
  obtain ⟨eX', T, I, ifs', scope', pos', hE, h1, h2, h3, h4, h5, h6⟩ := comp_inv h
  cases hE
  obtain ⟨ok, hown⟩ := blk_ok x h1
  have hfs : ∀ y, foldedSetIterable I X.env y = pure y := chkI_fold h3 X.env
  have hl : X.env.scope.names.lookup y = some .local := by
    unfold swW at hsw
    simp only [Bool.and_eq_true] at hsw
    rw [x.hs]
    exact beq_iff_eq.mp hsw.1.1
  have hsw' : swapsWith (.ListComp eX [⟨T, I, ifs', 0⟩] scope pos) (some (.Name y py)) spos.line X.env = pure true := by rw [sw_lc x.hs x.kd, hsw]
  have hI := okI it x h3 z
  cases ifs with
  | no =>
    have e6 := chkF_no h6
    subst e6
    refine ps_setLcD (lv := lv) (cx := G.cx cal) (wc := none) (wN := fun ls S => ev (G.cx cal) (.comp own tg it .no elt) false ls S) x.calm (by rw [x.hn]; exact x.nd) (x.at_ hi) hl hsw' (by rw [hown]; exact h2) rfl hI ok
      (fun s H C cl fp => pg_exG fun z => okT tg (blk_k x h1 s H C cl fp) h4 z) (fun s H C cl fp => pts_nil) (fun s H C cl fp => pe_exP fun z => (okE elt (blk_k x h1 s H C cl fp) h5 z).pe) hfs ?_ ?_
    · funext ls S; rw [ev, fin_f, hown] <;> rfl
    · funext ls S
      cases lv with
      | true => rw [if_pos rfl, if_pos rfl, ev, fin_f] <;> rfl
      | false => rw [if_neg Bool.false_ne_true, if_neg Bool.false_ne_true]
  | so c =>
    obtain ⟨C0, rfl, e6⟩ := chkF_so h6
    refine ps_setLcD (lv := lv) (cx := G.cx cal) (wc := some fun l s => ev (G.cx cal) c true l s) (wN := fun ls S => ev (G.cx cal) (.comp own tg it (.so c) elt) false ls S) x.calm (by rw [x.hn]; exact x.nd) (x.at_ hi) hl hsw' (by rw [hown]; exact h2) rfl hI ok
      (fun s H C cl fp => pg_exG fun z => okT tg (blk_k x h1 s H C cl fp) h4 z) (fun s H C cl fp => pts_one (pt_exT fun z => (okE c (blk_k x h1 s H C cl fp) e6 z).pt)) (fun s H C cl fp => pe_exP fun z => (okE elt (blk_k x h1 s H C cl fp) h5 z).pe) hfs ?_ ?_
    · funext ls S; rw [ev, fin_f, hown] <;> rfl
    · funext ls S
      cases lv with
      | true => rw [if_pos rfl, if_pos rfl, ev, fin_f] <;> rfl
      | false => rw [if_neg Bool.false_ne_true, if_neg Bool.false_ne_true]
theorem hot_ok {X : Cx} {i : Nat} {nm : Str} {a : Addr} {oe : Obj} {cls : Value} {d : Option Addr} {pn : List (Addr × Obj)} {z : W0} (hN : X.N[i]? = some nm) (hv : Vis X.env.scope nm) (hd : dbg nm = true) (hz : Zc cls d oe) (hf : ∃ vs, oe.data = .fields vs) : ∀ {es : CL} {Es : List Expr}, hotC i nm es Es = true →
    PA (X.suite a ((a, oe) :: pn)) Es (hotA X.K z a cls d i (hotL es))
  | .nil, [], _ => by
    have e : hotL .nil = fun _ => some [] := by funext fs; rw [hotL]
    rw [e]; exact hotA_nil
  | .nil, _ :: _, h => by simp [hotC] at h
  | .cons e es, Es, h => by
    unfold hotC at h
    split at h
    · rename_i h0; cases h0
    · rename_i d0 es0 c p1 p2 Es0 h0
      cases h0
      simp only [Bool.and_eq_true] at h
      have e : hotL (.cons (.con d0) es) = fun fs => match (fun _ => some d0) fs, hotL es fs with
        | some d, some ds => some (d :: ds)
        | _, _ => none := by funext fs; rw [hotL, hotV] <;> rfl
      rw [e]
      exact hotA_cons (hot_con h.1) (hot_ok hN hv hd hz hf h.2) rfl
    · rename_i j f es0 y p1 m p2 Es0 h0
      cases h0
      simp only [Bool.and_eq_true, decide_eq_true_eq] at h
      obtain ⟨⟨⟨rfl, rfl⟩, rfl⟩, h4⟩ := h
      have e : hotL (.cons (.exf j f) es) = fun fs => match (fun fs => fs.lookup f) fs, hotL es fs with
        | some d, some ds => some (d :: ds)
        | _, _ => none := by funext fs; rw [hotL, hotV] <;> rfl
      rw [e]
      exact hotA_cons (hot_exf hN hv (dbg_h hd).1 (dbg_h hd).2 hz hf) (hot_ok hN hv hd hz hf h4) rfl
    · cases h
end
end Ev
/-! Ev23: the theorem of statements. -/
namespace Ev
open PySem PySem.Spec PyProof.Rows L2
section
variable {G : Glo} {cal : String → List D → Sto → Res D} {n : Nat}
theorem nms2 {k : Kc} {i j : Nat} {Ts : List Expr} {ns : List Str} (h : nmsC k [i, j] Ts ns = true) : ∃ x px y py, Ts = [.Name x px, .Name y py] ∧ ns = [x, y] ∧ k.N[i]? = some x ∧ k.N[j]? = some y ∧ k.lk x = some .local ∧ k.lk y = some .local := by
  unfold nmsC at h
  split at h
  · contradiction
  · rename_i i' is x px ts y' ys h0
    cases h0
    simp only [Bool.and_eq_true, decide_eq_true_eq] at h
    obtain ⟨⟨⟨rfl, h1⟩, h2⟩, h3⟩ := h
    unfold nmsC at h3
    split at h3
    · contradiction
    · rename_i i' is x' px' ts y' ys h0
      cases h0
      simp only [Bool.and_eq_true, decide_eq_true_eq] at h3
      obtain ⟨⟨⟨rfl, h4⟩, h5⟩, h6⟩ := h3
      unfold nmsC at h6
      split at h6
      · exact ⟨_, _, _, _, rfl, rfl, h1, h4, h2, h5⟩
      · rename_i h0; cases h0
      · cases h6
    · cases h3
  · cases h
theorem nms3 {k : Kc} {i j l : Nat} {Ts : List Expr} {ns : List Str} (h : nmsC k [i, j, l] Ts ns = true) : ∃ x px y py t pt, Ts = [.Name x px, .Name y py, .Name t pt] ∧ ns = [x, y, t] ∧ k.N[i]? = some x ∧ k.N[j]? = some y ∧ k.N[l]? = some t ∧ k.lk x = some .local ∧ k.lk y = some .local ∧ k.lk t = some .local := by
  unfold nmsC at h
  split at h
  · contradiction
  · rename_i i' is x px ts y' ys h0
    cases h0
    simp only [Bool.and_eq_true, decide_eq_true_eq] at h
    obtain ⟨⟨⟨rfl, h1⟩, h2⟩, h3⟩ := h
    obtain ⟨a, pa, b, pb, rfl, rfl, k1, k2, k3, k4⟩ := nms2 h3
    exact ⟨_, _, _, _, _, _, rfl, rfl, h1, k1, k2, h2, k3, k4⟩
  · cases h
theorem Xs.tr {X : Cx} {k : Kc} {W : WX} (x : Xs X G cal k n W) {W' : WX} (pn : List (Addr × Obj)) (xe : Value → Shared → Prop) (tk : Takes (X.tr pn xe) W') (po : PassesOwn (model X.prog X.w) X.A X.env xe) : Xs (X.tr pn xe) G cal k n W' :=
  ⟨⟨x.hn, x.nd, x.hs, x.fn, x.kd, x.calm, x.room, x.env, tk⟩, x.st, x.hf, po, x.r3⟩
mutual
theorem okS : ∀ (s : CS) {X : Cx} {k : Kc} {W : WX} {T : Stmt}, Xs X G cal k n W → chkS G k s T = true → ∀ z : W0, PS X T (upS X.K X.mg z W fun ls S => evS (G.cx cal) s ls S)
  | .expr e, X, k, W, T, x, h, z => by
    simp only [chkS] at h
    split at h
    · simp only [Bool.and_eq_true, Bool.not_eq_true'] at h
      have e1 : (fun ls S => evS (G.cx cal) (.expr e) ls S) = fun ls S => (ev (G.cx cal) e false ls S).sd ls fun _ S1 => .nx ls S1 := by funext ls S; rw [evS]
      rw [e1]
      exact ps_exprD (okE e x.toXk h.2 z).pe (sw_no h.1 _ _ _)
    · cases h
  | .set tg e, X, k, W, T, x, h, z => by
    simp only [chkS] at h
    split at h
    · rename_i T0 E pos
      simp only [Bool.and_eq_true] at h
      obtain ⟨⟨h1, h2⟩, h3⟩ := h
      have e1 : (fun ls S => evS (G.cx cal) (.set tg e) ls S) = fun ls S => (ev (G.cx cal) e false ls S).sd ls fun d S1 => match asg tg d ls with
        | some l2 => .nx l2 S1
        | none => .bad := by funext ls S; rw [evS] <;> rfl
      rw [e1]
      have pg := okT tg x.toXk h1 z
      have pe := (okE e x.toXk h2 z).pe
      split at h3
      · rename_i y py
        have plain : swapsWith E (some (.Name y py)) pos.line X.env = pure false → PS X (.Assign [.Name y py] E pos) (upS X.K X.mg z W fun ls S => (ev (G.cx cal) e false ls S).sd ls fun d S1 => match asg tg d ls with
            | some l2 => .nx l2 S1
            | none => .bad) := fun hs => ps_asgD pe pg (by unfold swapsWithSole; exact hs) rfl rfl
        split at h3
        · rename_i eX gens scope cp
          split at h3
          · rename_i hsw
            cases tg with
            | tup ts => simp [chkT] at h1
            | one i =>
              have hi : k.N[i]? = some y := by
                simp only [chkT, Bool.and_eq_true, decide_eq_true_eq] at h1
                exact h1.1
              have e2 : ∀ (d : D) (ls : Loc), asg (.one i) d ls = if i < ls.length then some (ls.set i (some d)) else none := fun d ls => by rw [asg]
              simp only [e2]
              unfold isComp at h3
              split at h3
              · exact ok_setLc x.toXk z false h2 hi hsw
              · have h2' := h2
                simp only [chkE, Bool.and_eq_true] at h2
                refine ok_setLc x.toXk z true ?_ hi hsw
                rw [chkE] at h2'
                exact (Bool.and_eq_true _ _ ▸ h2').2
              · cases h3
          · rename_i hsw
            refine plain ?_
            rw [sw_lc x.hs x.kd]
            rw [Bool.eq_false_iff.mpr hsw]
        · simp only [Bool.not_eq_true'] at h3
          exact plain (sw_no h3 _ _ _)
      · rename_i Ts kk tp
        simp only [Bool.and_eq_true, Bool.not_eq_true'] at h3
        have hsw : swappedStores [.Tuple Ts kk tp] E X.env = pure none := by
          split at h3
          · exact swC_ok x.hs x.kd (of_decide_eq_true h3.2)
          · rename_i hne
            cases E <;> first | rfl | exact absurd rfl (hne _ _ _)
        exact ps_asgD pe pg (by unfold swapsWithSole; exact sw_no h3.1 _ _ _) hsw rfl
      · cases h3
    · cases h
  | .par is es, X, k, W, T, x, h, z => by
    simp only [chkS] at h
    split at h
    · rename_i Ts k1 p1 Vs k2 p2 pos
      simp only [Bool.and_eq_true, Bool.not_eq_true'] at h
      obtain ⟨⟨⟨h1, h2⟩, h3⟩, h4⟩ := h
      split at h4
      · rename_i ns hsw
        simp only [Bool.and_eq_true, decide_eq_true_eq] at h4
        have hw := swC_ok (k := k1) (k2 := k2) (p := p1) (p2 := p2) x.hs x.kd hsw
        have pa := okL es x.toXk h2 h3 z
        have e1 : (fun ls S => evS (G.cx cal) (.par is es) ls S) = fun ls S => (evs (G.cx cal) es ls S).sd ls fun ds S1 => match setAll is ds ls with
          | some l2 => .nx l2 S1
          | none => .bad := by funext ls S; rw [evS] <;> rfl
        rw [e1]
        have lc : ∀ {y : Str}, k.lk y = some .local → X.env.scope.names.lookup y = some .local := fun hy => by rw [x.hs]; exact hy
        unfold opts at h1
        split at h1
        · rename_i i j
          obtain ⟨a, pa', b, pb, rfl, rfl, q1, q2, q3, q4⟩ := nms2 h4.1
          have hl := h4.2
          rcases Vs with _ | ⟨v1, _ | ⟨v2, _ | ⟨v3, vs⟩⟩⟩ <;> simp at hl
          exact ps_par2D x.calm (by rw [x.hn]; exact x.nd) (x.at_ q1) (x.at_ q2) (of_decide_eq_true h1) (lc q3) (lc q4) pa hw
        · rename_i i j l
          obtain ⟨a, pa', b, pb, c, pc, rfl, rfl, q1, q2, q3, q4, q5, q6⟩ := nms3 h4.1
          have hl := h4.2
          rcases Vs with _ | ⟨v1, _ | ⟨v2, _ | ⟨v3, _ | ⟨v4, vs⟩⟩⟩⟩ <;> simp at hl
          exact ps_par3D x.calm (by rw [x.hn]; exact x.nd) (x.at_ q1) (x.at_ q2) (x.at_ q3) (lc q4) (lc q5) (lc q6) pa hw
        · cases h1
      · cases h4
    · cases h
  | .put o i v, X, k, W, T, x, h, z => by
    simp only [chkS] at h
    split at h
    · simp only [Bool.and_eq_true, Bool.not_eq_true'] at h
      obtain ⟨⟨⟨⟨h1, h2⟩, h3⟩, h4⟩, h5⟩ := h
      have e1 : (fun ls S => evS (G.cx cal) (.put o i v) ls S) = fun ls S => (ev (G.cx cal) v false ls S).sd ls fun y S1 => (ev (G.cx cal) o false ls S1).sd ls fun x S2 => (ev (G.cx cal) i false ls S2).sd ls fun z S3 => match putD S3 x z y with
        | some S4 => .nx ls S4
        | none => .bad := by funext ls S; rw [evS] <;> rfl
      rw [e1]
      exact ps_putD (okE o x.toXk h3 z).pe (okE i x.toXk h4 z).pe (okE v x.toXk h5 z).pe (by unfold swapsWithSole; exact sw_no h1 _ _ _) rfl h2
    · cases h
  | .aug _ _ _, X, k, W, T, x, h, z => by simp [chkS] at h
  | .augs _ _ _ _, X, k, W, T, x, h, z => by simp [chkS] at h
  | .ifs c a b, X, k, W, T, x, h, z => by
    simp only [chkS] at h
    split at h
    · simp only [Bool.and_eq_true] at h
      have e1 : (fun ls S => evS (G.cx cal) (.ifs c a b) ls S) = fun ls S => (ev (G.cx cal) c true ls S).sd ls fun d S1 => match d with
        | .bl true => evB (G.cx cal) a ls S1
        | .bl false => evB (G.cx cal) b ls S1
        | _ => .bad := by funext ls S; rw [evS] <;> rfl
      rw [e1]
      exact ps_ifD (okE c x.toXk h.1.1 z).pt (okB a x h.1.2 z) (okB b x h.2 z)
    · cases h
  | .whl c b, X, k, W, T, x, h, z => by
    simp only [chkS] at h
    split at h
    · simp only [Bool.and_eq_true] at h
      have e1 : (fun ls S => evS (G.cx cal) (.whl c b) ls S) = fun ls S => whlF (fun l s => ev (G.cx cal) c true l s) (fun l s => evB (G.cx cal) b l s) (G.cx cal).fuel ls S := by funext ls S; rw [evS]
      rw [e1]
      exact ps_whlD x.po (okE c x.toXk h.1 z).pt (okB b x h.2 z)
    · cases h
  | .for_ tg it b, X, k, W, T, x, h, z => by
    simp only [chkS] at h
    split at h
    · simp only [Bool.and_eq_true] at h
      have e1 : (fun ls S => evS (G.cx cal) (.for_ tg it b) ls S) = fun ls S => (evi (G.cx cal) it ls S).sd ls fun w S1 => forF w.2 (fun x l s => match asg tg x l with
        | some l2 => evB (G.cx cal) b l2 s
        | none => .bad) w.1 ls S1 := by funext ls S; rw [evS] <;> rfl
      rw [e1]
      exact ps_forD x.po x.calm (okI it x.toXk h.1.2 z) (okT tg x.toXk h.1.1 z) (okB b x h.2 z) (chkI_fold h.1.2 X.env)
    · cases h
  | .ret e, X, k, W, T, x, h, z => by
    simp only [chkS] at h
    split at h
    · have e1 : (fun ls S => evS (G.cx cal) (.ret e) ls S) = fun ls S => (ev (G.cx cal) e false ls S).sd ls fun d S1 => .rt d S1 := by funext ls S; rw [evS]
      rw [e1]
      exact ps_retD (okE e x.toXk h z).pe
    · cases h
  | .retn, X, k, W, T, x, h, z => by
    simp only [chkS] at h
    split at h
    · have e1 : (fun ls S => evS (G.cx cal) .retn ls S) = fun _ S => .rt .non S := by funext ls S; rw [evS]
      rw [e1]; exact ps_retND
    · cases h
  | .brk, X, k, W, T, x, h, z => by
    simp only [chkS] at h
    split at h
    · have e1 : (fun ls S => evS (G.cx cal) .brk ls S) = fun ls S => .bk ls S := by funext ls S; rw [evS]
      rw [e1]; exact ps_brkD
    · cases h
  | .cnt, X, k, W, T, x, h, z => by
    simp only [chkS] at h
    split at h
    · have e1 : (fun ls S => evS (G.cx cal) .cnt ls S) = fun ls S => .ct ls S := by funext ls S; rw [evS]
      rw [e1]; exact ps_cntD
    · cases h
  | .pas, X, k, W, T, x, h, z => by
    simp only [chkS] at h
    split at h
    · have e1 : (fun ls S => evS (G.cx cal) .pas ls S) = fun ls S => .nx ls S := by funext ls S; rw [evS]
      rw [e1]; exact ps_passD
    · cases h
  | .any, X, k, W, T, x, h, z => by
    have e1 : (fun ls S => evS (G.cx cal) .any ls S) = fun _ _ => .bad := by funext ls S; rw [evS]
    rw [e1]; exact ps_anyD
  | .rai c es, X, k, W, T, x, h, z => by
    simp only [chkS] at h
    split at h
    · simp only [Bool.and_eq_true, decide_eq_true_eq, Bool.not_eq_true'] at h
      obtain ⟨⟨⟨⟨⟨rfl, h1⟩, h2⟩, h3⟩, h4⟩, h5⟩ := h
      have hs := h4
      unfold stars at hs
      rw [List.any_cons, Bool.or_eq_false_iff] at hs
      have hne : G.fld c ≠ [] := fun e => by rw [e] at h3; cases h3
      have e1 : (fun ls S => evS (G.cx cal) (.rai c es) ls S) = fun ls S => (evs (G.cx cal) es ls S).sd ls fun ds S1 => if ds.length = (G.fld c).length ∧ ds.length ≤ 2 ∧ 0 < ds.length then .exc c ((G.fld c).zip ds) ls S1 else .bad := by funext ls S; rw [evS] <;> rfl
      rw [e1]
      exact ps_raiD x.calm x.tk (x.room.mono x.r3) (x.env.er c hne) (x.gl h1) (dbg_h h2).1 (okL es x.toXk h4 h5 z) (star_each hs.1 _ _) (stars_no hs.2 _ _)
    · cases h
  | .tryr b c i es, X, k, W, T, x, h, z => by
    simp only [chkS] at h
    split at h
    · simp only [Bool.and_eq_true, decide_eq_true_eq, Bool.not_eq_true'] at h
      obtain ⟨⟨⟨⟨⟨⟨⟨⟨rfl, h1⟩, h2⟩, h3⟩, h4⟩, h5⟩, h6⟩, h7⟩, h8⟩ := h
      have hne : G.fld c ≠ [] := fun e => by rw [e] at h3; cases h3
      obtain ⟨C0, fI, fd, hm, _⟩ := (x.env.er c hne).ex
      have e1 : (fun ls S => evS (G.cx cal) (.tryr b c i es) ls S) = fun ls S => match evB (G.cx cal) b ls S with
        | .exc c' fs l1 S1 => if xok G.fld c' fs = true then (if G.sub c' c = true then (match hotL es fs with
          | some ds => if ds.length ≤ 16777216 then .rt (.tup ds) S1 else .bad
          | none => .bad) else .exc c' fs l1 S1) else .bad
        | r => r := by funext ls S; rw [evS] <;> rfl
      rw [e1]
      have lc : ∀ {y : Str}, k.lk y = some .local → X.env.scope.names.lookup y = some .local := fun hy => by rw [x.hs]; exact hy
      have hl := lc h5
      exact ps_tryD (G := G) (f := fun ls S => evB (G.cx cal) b ls S) x.st x.hf (by rw [x.hn]; exact x.nd) (x.at_ h4) hl rfl (x.gl h1) (dbg_h h2).1 hm x.tk (fun c' C' hc' hm' => x.env.sb c' c C' C0 hc' hne hm' hm) (fun c' hc' => x.env.er c' hc')
        (fun W' pn xe tk po => okB b (x.tr pn xe tk po) h7 z) (fun a oe cls d pn hz hf => hot_ok (x.at_ h4) (.inl hl) h6 hz hf h8)
    · cases h
theorem okB : ∀ (b : CB) {X : Cx} {k : Kc} {W : WX} {B : List Stmt}, Xs X G cal k n W → chkB G k b B = true → ∀ z : W0, PSs X B (upS X.K X.mg z W fun ls S => evB (G.cx cal) b ls S)
  | .nil, X, k, W, [], x, h, z => by
    have e1 : (fun ls S => evB (G.cx cal) .nil ls S) = fun ls S => .nx ls S := by funext ls S; rw [evB]
    rw [e1]; exact pss_nilD
  | .nil, X, k, W, _ :: _, x, h, z => by simp [chkB] at h
  | .cons _ _, X, k, W, [], x, h, z => by simp [chkB] at h
  | .cons s b, X, k, W, T :: B, x, h, z => by
    simp only [chkB, Bool.and_eq_true] at h
    have e1 : (fun ls S => evB (G.cx cal) (.cons s b) ls S) = fun ls S => (evS (G.cx cal) s ls S).sq fun l2 S2 => evB (G.cx cal) b l2 S2 := by funext ls S; rw [evB]
    rw [e1]
    exact pss_consD (okS s x h.1 z) (okB b x h.2 z)
end
end
end Ev
/-! Ev24: what leaves a def, told without what is new. -/
namespace Ev
open PySem PySem.Spec PyProof.Rows L2
section
variable {K : PySem.W.Frag} {φ : List Addr} {S : Sto} {H : Hp} {B : Addr → Prop}
mutual
theorem rep_bel {L : Addr → Prop} : ∀ {d : D} {v : V}, Rep K φ L H d v → d.bel φ.length = true
  | _, _, .non => rfl
  | _, _, .bl _ => rfl
  | _, _, .int _ => rfl
  | _, _, .str _ => rfl
  | _, _, .tup _ r => by rw [D.bel]; exact reps_bel r
  | _, _, .lst _ r => by rw [D.bel]; exact reps_bel r
  | _, _, .dic _ _ r _ => by rw [D.bel]; exact reps_bel r
  | _, _, .loc h => by rw [D.bel]; exact decide_eq_true (List.getElem?_eq_some_iff.mp h).1
  | _, _, .ro _ r => by rw [D.bel]; exact reps_bel r
theorem reps_bel {L : Addr → Prop} : ∀ {ds : List D} {vs : List V}, Reps K φ L H ds vs → bels φ.length ds = true
  | _, _, .nil => by rw [bels]
  | _, _, .cons r t => by rw [bels, rep_bel r, reps_bel t]; rfl
end
/-- the frozen stay so when the store is cut -/
theorem cut_lb {n : Nat} {a : Addr} (h : LB (φ.take n) (S.take n) B a) : LB φ S B a := by
  rcases h with ⟨l, o, h1, h2, h3⟩ | h
  · refine .inl ⟨l, o, ?_, ?_, h3⟩
    · rw [List.getElem?_take] at h1
      split at h1
      · exact h1
      · cases h1
    · rw [List.getElem?_take] at h2
      split at h2
      · exact h2
      · cases h2
  · exact .inr h
mutual
theorem bel_rep {n : Nat} : ∀ {d : D} {v : V}, Rep K φ (LB φ S B) H d v → d.bel n = true → Rep K (φ.take n) (LB (φ.take n) (S.take n) B) H d v
  | _, _, .non, _ => .non
  | _, _, .bl b, _ => .bl b
  | _, _, .int i, _ => .int i
  | _, _, .str s, _ => .str s
  | _, _, .tup h r, e => by
    rw [D.bel] at e
    refine .tup ?_ (bels_rep r e)
    rcases h with ⟨o, h, nn⟩ | h
    · exact .inl ⟨o, h, fun z => nn (cut_lb z)⟩
    · exact .inr h
  | _, _, .lst h r, e => by
    rw [D.bel] at e
    exact .lst ⟨h.1, fun z => h.2 (cut_lb z)⟩ (bels_rep r e)
  | _, _, .dic h k r l, e => by
    rw [D.bel] at e
    exact .dic ⟨h.1, fun z => h.2 (cut_lb z)⟩ k (bels_rep r e) l
  | _, _, .loc h, e => by
    rw [D.bel] at e
    refine .loc ?_
    rw [List.getElem?_take, if_pos (of_decide_eq_true e)]; exact h
  | _, _, .ro h r, e => by
    rw [D.bel] at e
    exact .ro (h.elim (fun h => .inl ⟨h.1, fun z => h.2 (cut_lb z)⟩) .inr) (bels_rep r e)
theorem bels_rep {n : Nat} : ∀ {ds : List D} {vs : List V}, Reps K φ (LB φ S B) H ds vs → bels n ds = true → Reps K (φ.take n) (LB (φ.take n) (S.take n) B) H ds vs
  | _, _, .nil, _ => .nil
  | _, _, .cons r t, e => by
    rw [bels, Bool.and_eq_true] at e
    exact .cons (bel_rep r e.1) (bels_rep t e.2)
end
theorem bels_map {n : Nat} (f : D → D) : ∀ (xs : List D), bels n (xs.map f) = true → ∀ x ∈ xs, (f x).bel n = true
  | [], _, x, m => by cases m
  | y :: ys, e, x, m => by
    rw [List.map_cons, bels, Bool.and_eq_true] at e
    rcases List.mem_cons.mp m with h | h
    · rw [h]; exact e.1
    · exact bels_map f ys e.2 x h
theorem reps_map {φ' : List Addr} {L L' : Addr → Prop} {H' : Hp} (f : D → D) : ∀ {xs : List D} {vs : List V}, Reps K φ L H xs vs → (∀ x v, x ∈ xs → Rep K φ L H x v → Rep K φ' L' H' (f x) v) → Reps K φ' L' H' (xs.map f) vs
  | _, _, .nil, _ => .nil
  | _, _, .cons r t, h => .cons (h _ _ (by simp) r) (reps_map f t fun x v m => h x v (by simp [m]))
theorem thaw_rep (Wd : Wld K φ S H B) {n : Nat} : ∀ (k : Nat) (d : D) (v : V), Rep K φ (LB φ S B) H d v → (thaw n S k d).bel n = true → Rep K (φ.take n) (LB (φ.take n) (S.take n) B) H (thaw n S k d) v
  | 0, d, v, r, e => by
    rw [thaw] at e ⊢
    exact bel_rep r e
  | k + 1, d, v, r, e => by
    cases d with
    | loc l =>
      rw [thaw] at e ⊢
      by_cases hl : l < n
      · rw [if_pos hl] at e ⊢; exact bel_rep r e
      · rw [if_neg hl] at e ⊢
        cases hS : S[l]? with
        | none =>
          rw [hS] at e
          simp only [D.bel, decide_eq_true_eq] at e
          exact absurd e hl
        | some o =>
          rw [hS] at e
          cases o with
          | lst xs =>
            dsimp only at e ⊢
            cases r with
            | loc ha =>
              obtain ⟨a, vs, h1, h2, h3⟩ := Wd.loc hS
              rw [ha] at h1; cases h1
              rw [D.bel] at e
              refine .lst ⟨h2, fun z => ?_⟩ (reps_map _ h3 fun x v m rx => thaw_rep Wd k x v rx (bels_map _ xs e x m))
              rcases z with ⟨l', o', k1, k2, k3⟩ | z
              · rw [List.getElem?_take] at k1
                split at k1
                · rename_i hl'
                  have hlt : l < φ.length := (List.getElem?_eq_some_iff.mp ha).1
                  have := (List.getElem?_inj hlt Wd.nd).mp (ha.trans k1.symm)
                  omega
                · cases k1
              · exact Wd.bn _ z (List.mem_of_getElem? ha)
          | dic ks vs =>
            simp only [D.bel, decide_eq_true_eq] at e
            exact absurd e hl
          | dead =>
            simp only [D.bel, decide_eq_true_eq] at e
            exact absurd e hl
    | tup xs =>
      rw [thaw] at e ⊢
      cases r with
      | tup h r =>
        rw [D.bel] at e
        refine .tup ?_ (reps_map _ r fun x v m rx => thaw_rep Wd k x v rx (bels_map _ xs e x m))
        rcases h with ⟨o, h, nn⟩ | h
        · exact .inl ⟨o, h, fun z => nn (cut_lb z)⟩
        · exact .inr h
    | lst xs =>
      rw [thaw] at e ⊢
      cases r with
      | lst h r =>
        rw [D.bel] at e
        exact .lst ⟨h.1, fun z => h.2 (cut_lb z)⟩ (reps_map _ r fun x v m rx => thaw_rep Wd k x v rx (bels_map _ xs e x m))
    | non => exact bel_rep r e
    | bl b => exact bel_rep r e
    | int i => exact bel_rep r e
    | str s => exact bel_rep r e
    | dic ks vs => exact bel_rep r e
    | ro xs => exact bel_rep r e
/-- the world, cut -/
theorem wld_cut {S0 : Sto} (Wd : Wld K φ S H B) (o : oldOk S0 S) (h0 : ∀ (l : Nat) (o : Ob), S0[l]? = some o → o.bel S0.length = true) : Wld K (φ.take S0.length) (S.take S0.length) H B := by
  refine ⟨by rw [List.length_take, List.length_take, Wd.len], Wd.nd.sublist (List.take_sublist _ _), fun l ob e n => ?_, Wd.bt, fun a ha m => Wd.bn a ha (List.mem_of_mem_take m), fun a m => Wd.ft a (List.mem_of_mem_take m)⟩
  rw [List.getElem?_take] at e
  split at e
  · rename_i hl
    obtain ⟨a, ho, h1, h2, h3⟩ := Wd.ob l ob e n
    refine ⟨a, ho, by rw [List.getElem?_take, if_pos hl]; exact h1, h2, ?_⟩
    have hb : ob.bel S0.length = true := by
      rcases o.2 l hl with h | ⟨o', k1, k2⟩
      · rw [e] at h; exact h0 l ob h.symm
      · rw [e] at k1; cases k1; exact k2
    cases h3 with
    | lst r => rw [Ob.bel] at hb; exact .lst (bels_rep r hb)
    | dic ek r l => rw [Ob.bel] at hb; exact .dic ek (bels_rep r hb) l
  · cases e
theorem wld_bel (Wd : Wld K φ S H B) : ∀ (l : Nat) (o : Ob), S[l]? = some o → o.bel S.length = true := fun l o e => by
  cases o with
  | dead => rfl
  | lst xs =>
    obtain ⟨a, ho, h1, h2, h3⟩ := Wd.ob l _ e (by simp)
    cases h3 with
    | lst r => rw [Ob.bel, ← Wd.len]; exact reps_bel r
  | dic ks vs =>
    obtain ⟨a, ho, h1, h2, h3⟩ := Wd.ob l _ e (by simp)
    cases h3 with
    | dic ek r l => rw [Ob.bel, ← Wd.len]; exact reps_bel r
theorem stp_cut2 {φ0 : List Addr} {S0 : Sto} {H0 : Hp} (st : Stp φ0 S0 H0 φ S H) (Wd : Wld K φ S H B) (W0 : Wld K φ0 S0 H0 B) (o : oldOk S0 S) : φ.take S0.length = φ0 ∧ Stp φ0 S0 H0 φ0 (S.take S0.length) H := by
  have e : φ.take S0.length = φ0 := by
    apply List.ext_getElem?
    intro l
    rw [List.getElem?_take]
    by_cases hl : l < S0.length
    · rw [if_pos hl]
      have hl0 : l < φ0.length := by rw [W0.len]; exact hl
      rw [List.getElem?_eq_getElem hl0]
      exact st.pre l _ (List.getElem?_eq_getElem hl0)
    · rw [if_neg hl, List.getElem?_eq_none (by rw [W0.len]; omega)]
  refine ⟨e, fun _ _ h => h, fun a u h nl => ?_, st.more⟩
  obtain ⟨h1, h2⟩ := st.keep a u h nl
  refine ⟨h1, fun z => ?_⟩
  rw [← e] at z
  have := cut_lb (B := fun _ => False) (φ := φ) (S := S) (n := S0.length) (.inl z)
  exact this.elim h2 id
end
end Ev
/-! Ev25: defs, by levels. -/
namespace Ev
open PySem PySem.Spec PyProof.Rows L2
section
variable {K : PySem.W.Frag} {mg : Str → Option Value} {φ : List Addr} {S : Sto} {H : Hp} {B : Addr → Prop}
def spG (K : PySem.W.Frag) (mg : Str → Option Value) (φ : List Addr) (S : Sto) (H : Hp) (B : Addr → Prop) (Q : VK) (E : XK) (r : Res D) : Prop := match r with
  | .ok d S' => ∀ φ' H' v, Stp φ S H φ' S' H' → Wld K φ' S' H' B → Rep K φ' (LB φ' S' B) H' d v → Q v H'
  | .exc c fs S' => ∀ φ' H' cls dd, Stp φ S H φ' S' H' → Wld K φ' S' H' B → ExR K mg φ' (LB φ' S' B) H' c fs cls dd → E cls dd H'
  | .bad => False
theorem leave_ok (W0 : Wld K φ S H B) {Q : VK} {E : XK} (md : Md) (r : SR) (h : spG K mg φ S H B Q E (leave md S r)) :
    sG K mg ⟨φ, S, H, B⟩ (fun cls dd _ H' => E cls dd H') { nx := fun _ H' => Q .non H', rt := Q } φ S H r := by
  cases md with
  | raw =>
    cases r with
    | rt d S' => exact fun φ' H' v st wd rp => h φ' H' v st wd rp
    | nx l S' => exact fun φ' σ' H' st hh => h φ' H' .non st hh.w .non
    | exc c fs l S' => exact fun φ' σ' H' cls dd st wd ex => h φ' H' cls dd st wd ex
    | bk _ _ => exact h.elim
    | ct _ _ => exact h.elim
    | bad => exact h.elim
  | trim k =>
    cases r with
    | rt d S' =>
      unfold leave at h
      dsimp only at h
      by_cases ho : oldOk S S' ∧ (thaw S.length S' k d).bel S.length = true
      · rw [gd_pos ho] at h
        intro φ' H' v st wd rp
        obtain ⟨e, st2⟩ := stp_cut2 st wd W0 ho.1
        have wc := wld_cut wd ho.1 (wld_bel W0)
        have rc := thaw_rep wd k d v rp ho.2
        rw [e] at wc rc
        exact h φ H' v st2 wc rc
      · rw [gd_neg ho] at h; exact h.elim
    | nx l S' =>
      unfold leave at h
      dsimp only at h
      by_cases ho : oldOk S S'
      · rw [gd_pos ho] at h
        intro φ' σ' H' st hh
        obtain ⟨e, st2⟩ := stp_cut2 st hh.w W0 ho
        have wc := wld_cut hh.w ho (wld_bel W0)
        rw [e] at wc
        exact h φ H' .non st2 wc .non
      · rw [gd_neg ho] at h; exact h.elim
    | exc c fs l S' =>
      unfold leave at h
      dsimp only at h
      by_cases ho : oldOk S S' ∧ ∀ p ∈ fs, p.2.bel S.length = true
      · rw [gd_pos ho] at h
        intro φ' σ' H' cls dd st wd ex
        obtain ⟨e, st2⟩ := stp_cut2 st wd W0 ho.1
        have wc := wld_cut wd ho.1 (wld_bel W0)
        rw [e] at wc
        obtain ⟨C, a, gs, e1, e2, e3, e4, e5⟩ := ex
        refine h φ H' cls dd st2 wc ⟨C, a, gs, e1, e2, e3, e4, fun f d hf => ?_⟩
        obtain ⟨v, k1, k2⟩ := e5 f d hf
        have k3 := bel_rep (n := S.length) k2 (ho.2 (f, d) (lookup_mem hf))
        rw [e] at k3
        exact ⟨v, k1, k3⟩
      · rw [gd_neg ho] at h; exact h.elim
    | bk _ _ => exact h.elim
    | ct _ _ => exact h.elim
    | bad => exact h.elim
theorem loc_start {L : Addr → Prop} {N : List Str} {ds : List D} {vs : List V} {nl : Nat} (r : Reps K φ L H ds vs) (hn : nl = N.length) (hl : ds.length ≤ N.length) : LocR K φ L H (startD nl ds) (L2.start N vs) := by
  have e := r.length
  refine ⟨?_, fun i d h => ?_⟩
  · unfold startD L2.start
    rw [List.length_append, List.length_append, List.length_map, List.length_map, List.length_replicate, List.length_replicate]
    omega
  · unfold startD at h
    unfold L2.start
    by_cases hi : i < ds.length
    · rw [List.getElem?_append_left (by simpa using hi), List.getElem?_map] at h
      obtain ⟨d', h1, h2⟩ := Option.map_eq_some_iff.mp h
      cases h2
      obtain ⟨v, k1, k2⟩ := r.get h1
      refine ⟨v, ?_, k2⟩
      rw [List.getElem?_append_left (by simpa [← e] using hi), List.getElem?_map, k1]; rfl
    · rw [List.getElem?_append_right (by simpa using Nat.le_of_not_lt hi), List.getElem?_replicate] at h
      split at h <;> cases h
end
section
variable {P : Program} {w : PySem.World} {K : PySem.W.Frag} {mg : Str → Option Value} {base : Heap} {G : Glo} {cal : String → List D → Sto → Res D} {n : Nat}
theorem def_ok {x qual : Str} {params : Arguments} {body : List Stmt} {scope : Scope} {f : Addr} {fd : FuncData} {N ps : List Str} {df : FDef} (F : FunD K x qual params body scope [] [] f fd) (Sc : FnScope N ps scope) (hp : df.np = ps.length) (hl : df.nl = N.length) (hc : chkB G ⟨N, scope, scope⟩ df.body body = true)
    (env : EnvOk P w K mg base G cal n) (h3 : 3 ≤ n) : FnOk P w K mg base (L2.CX P w) (n + 1) f fd ps (spD K mg fun ds S => runF G cal df ds S) := by
  have hpl : ps.length ≤ N.length := by have := congrArg List.length Sc.pre; rw [List.length_take] at this; omega
  refine F.ok Sc (fun vs H Q E h => ?_) fun cdv A outer s H vs Q E hr h => ?_
  · obtain ⟨φ, S, B, ds, wd, r, g⟩ := h
    unfold runF at g
    dsimp only at g
    by_cases hd : ds.length = df.np
    · rw [← r.length, hd, hp]
    · rw [if_neg hd] at g; exact g.elim
  · obtain ⟨φ, S, B, ds, wd, r, g⟩ := h
    unfold runF at g
    dsimp only at g
    by_cases hd : ds.length = df.np
    · rw [if_pos hd] at g
      have xs : Xs (cxOf (L2.CX P w) P w K mg base N qual scope f cdv A outer s H E) G cal ⟨N, scope, scope⟩ n (fun cls d _ H => E cls d H) := by
        exact ⟨⟨rfl, Sc.nd, rfl, fun _ _ => rfl, Sc.kind, rfl, hr, env, takes_of rfl rfl rfl rfl⟩, rfl, rfl, passes_of rfl, h3⟩
      refine ⟨_, okB df.body xs hc ⟨φ, S, H, B⟩, φ, S, startD df.nl ds, ⟨Stp.refl, wd, loc_start r hl (by omega)⟩, leave_ok wd df.md _ ?_⟩
      exact g
    · rw [if_neg hd] at g; exact g.elim

/-- what is known of the program, once and for all -/
structure StOk (P : Program) (w : PySem.World) (K : PySem.W.Frag) (mg : Str → Option Value) (base : Heap) (G : Glo) (tab : List FDef) : Prop where
  fn : ∀ x ∈ G.fns, ∃ df, tab.find? (fun f => f.name == x) = some df ∧ ∃ (qual : Str) (params : Arguments) (body : List Stmt) (scope : Scope) (f : Addr) (fd : FuncData) (N ps : List Str), mg (Str.ofString x) = some (.ref f) ∧ PySem.W.keepIn K (.ref f) = true ∧ Binds K fd ps [] ∧ FunD K (Str.ofString x) qual params body scope [] [] f fd ∧ FnScope N ps scope ∧ df.np = ps.length ∧ df.nl = N.length ∧
    chkB G ⟨N, scope, scope⟩ df.body body = true ∧ ∀ ks ix, G.kws x ks = some ix → ∀ (s : Shared) (ws rs : List Value), reo ws ix = some rs → ws.length = ks.length → BindsTo s fd ⟨[], (ks.map Str.ofString).zip ws⟩ (ps.zip rs)
  gl : ∀ x d, G.glb x = some d → ∃ u v, mg (Str.ofString x) = some u ∧ RelV v u ∧ ∀ φ L H, Rep K φ L H d v
  gd : ∀ x ks vs, G.gdc x = some (ks, vs) → (∀ k ∈ ks, ∃ t, k = D.str t) ∧ ∃ d es n, mg (Str.ofString x) = some (.ref d) ∧ KDict K w d es n ∧ ∀ t : List Nat, match look ks vs (.str t) with
    | some r => ∃ u v, PySem.W.nsIn K d ⟨t.toArray⟩ = some (some u) ∧ RelV v u ∧ ∀ φ L H, Rep K φ L H r v
    | none => PySem.W.nsIn K d ⟨t.toArray⟩ = some none
  bl : ∀ x ∈ bltNames, mg x = none
  er : ∀ c, G.fld c ≠ [] → ErrOk P w K mg base c (G.fld c)
  sb : ∀ c h C D, G.fld c ≠ [] → G.fld h ≠ [] → mg (Str.ofString c) = some (.ref C) → mg (Str.ofString h) = some (.ref D) → PySem.W.exmOne K (.ref C) (.ref D) = some (G.sub c h)
theorem env_ok {tab : List FDef} (T : StOk P w K mg base G tab) : ∀ m : Nat, EnvOk P w K mg base G (callF G tab m) (m + 3)
  | 0 => ⟨fun x hx => by
      obtain ⟨df, h0, qual, params, body, scope, f, fd, N, ps, h1, h2, h3, h4, h5, h6, h7, h8, h9⟩ := T.fn x hx
      refine ⟨f, fd, ps, h1, h2, h3, ⟨fun vs H Q E h => ?_, fun A outer s H args us vs Q E hr e0 hb hv h => ?_⟩, h9⟩
      · obtain ⟨φ, S, B, ds, wd, r, g⟩ := h
        rw [callF] at g; exact g.elim
      · obtain ⟨φ, S, B, ds, wd, r, g⟩ := h
        rw [callF] at g; exact g.elim, T.gl, T.gd, T.bl, T.er, T.sb⟩
  | m + 1 => ⟨fun x hx => by
      obtain ⟨df, h0, qual, params, body, scope, f, fd, N, ps, h1, h2, h3, h4, h5, h6, h7, h8, h9⟩ := T.fn x hx
      refine ⟨f, fd, ps, h1, h2, h3, ?_, h9⟩
      have e : (callF G tab (m + 1) x) = fun ds S => runF G (callF G tab m) df ds S := by funext ds S; rw [callF, h0]
      rw [e]
      exact def_ok h4 h5 h6 h7 h8 (env_ok T m) (Nat.le_add_left 3 m), T.gl, T.gd, T.bl, T.er, T.sb⟩
end
end Ev
/-! Ev26: the head's facts: a Hook with checks of one's own; own error classes. -/
namespace Ev
open PySem PySem.Spec PyProof.Rows L2
/-! ### the Hook -/
abbrev AlX : Type := He.AlT × Bool
def obsX (fa : List He.Fa) (fn : List He.DefD) (ts : List He.Tab) (ex : PySem.W.Frag → Bool) (K : PySem.W.Frag) : AlX := (He.obsT fa fn ts K, ex K)
def obsXG (n : Nat) (fa : List He.Fa) (fn : List He.DefD) (ts : List He.Tab) (ex : PySem.W.Frag → Bool) (g : Addr → Option Obj) : AlX := obsX fa fn ts ex (He.frG g (He.asD g n))
def SaysX (fa : List He.Fa) (fn : List He.DefD) (ts : List He.Tab) (ex : PySem.W.Frag → Bool) (w : PySem.World) (K : PySem.W.Frag) : Prop := obsX fa fn ts ex K = (He.valT fn ts w, true)
def hookX (n : Nat) (fa : List He.Fa) (fn : List He.DefD) (ts : List He.Tab) (ex : PySem.W.Frag → Bool) : PySem.W.Hook where
  α := AlX
  obs := fun s => obsXG n fa fn ts ex s.heap.get?
  val := fun w => (He.valT fn ts w, true)
  says := fun w h => ∃ K : PySem.W.Frag, K.In h ∧ SaysX fa fn ts ex w K
  of := fun _ _ e => ⟨_, He.frG_in, e⟩
  keeps := fun _ _ _ ⟨K, hK, c⟩ k => ⟨K, PySem.W.Frag.In.keeps hK k, c⟩
theorem obsXG_eq {n : Nat} {fa : List He.Fa} {fn : List He.DefD} {ts : List He.Tab} {ex : PySem.W.Frag → Bool} {g : Addr → Option Obj} {s : Shared} (h : ∀ a, g a = s.heap.get? a) : obsXG n fa fn ts ex g = (hookX n fa fn ts ex).obs s := by
  have e : g = s.heap.get? := funext h
  rw [e] <;> rfl
theorem SaysX.t {fa : List He.Fa} {fn : List He.DefD} {ts : List He.Tab} {ex : PySem.W.Frag → Bool} {w : PySem.World} {K : PySem.W.Frag} (c : SaysX fa fn ts ex w K) : He.SaysT fa fn ts w K := congrArg (fun z : AlX => z.1) c
theorem SaysX.x {fa : List He.Fa} {fn : List He.DefD} {ts : List He.Tab} {ex : PySem.W.Frag → Bool} {w : PySem.World} {K : PySem.W.Frag} (c : SaysX fa fn ts ex w K) : ex K = true := congrArg (fun z : AlX => z.2) c
/-! ### own errors -/
def oexB (K : PySem.W.Frag) (C : Addr) : Bool := (match K.lookup C with
  | some ⟨.type "type", _, .cls cd, sl⟩ => (match cd.mro, sl.toList with
    | .ref C' :: bm, [_, _, _, _, some (.builtin n), _] => decide (C' = C) && (decide (n = "ValueError.__new__") && (!cd.hasDel && (cd.hasDict && PySem.HandSPX.refsVE bm)))
    | _, _ => false)
  | _ => false) && (decide (PySem.W.findIn K (.ref C) "__setattr__" = some (some (.builtin "object.__setattr__"))) && (decide (PySem.W.subIn K (.ref C) (.type "BaseException") = some true) && (decide (PySem.W.typeIn K (.ref C) = some (.type "type")) && PySem.W.keepIn K (.ref C))))
theorem oexB_ok {K : PySem.W.Frag} {C : Addr} (h : oexB K C = true) : OexC K C := by
  unfold oexB at h
  rw [Bool.and_eq_true, Bool.and_eq_true, Bool.and_eq_true, Bool.and_eq_true] at h
  obtain ⟨h0, h1, h2, h3, h4⟩ := h
  refine ⟨?_, of_decide_eq_true h1, of_decide_eq_true h2, of_decide_eq_true h3, h4⟩
  split at h0
  · rename_i dd cd sl ho
    split at h0
    · rename_i C' bm k0 k1 k2 k3 n k5 hm hs
      rw [Bool.and_eq_true, Bool.and_eq_true, Bool.and_eq_true, Bool.and_eq_true] at h0
      obtain ⟨e1, e2, e3, e4, e5⟩ := h0
      have e1 := of_decide_eq_true e1
      have e2 := of_decide_eq_true e2
      subst e1 e2
      obtain ⟨nm, bs, mro, ns, qn, hd, sn, sub, ab, col, del⟩ := cd
      simp only [Bool.not_eq_true'] at e3
      dsimp only at hm e3 e4
      subst hm e3 e4
      have hsl : sl = #[k0, k1, k2, k3, some (.builtin "ValueError.__new__"), k5] := by
        obtain ⟨l⟩ := sl
        simp only at hs
        rw [hs]
      subst hsl
      exact ⟨nm, qn, ns, bs, bm, sn, sub, ab, col, dd, k0, k1, k2, k3, k5, ho, e5⟩
    · cases h0
  · cases h0
/-- def __init__(self, f): self.f = f -/
def ini1 (f : String) (body : List Stmt) : Bool := match body with
  | [.Assign [.Attribute (.Name s _) g _] (.Name y _) _] => decide (s = ("self" : Str)) && (decide (g = Str.ofString f) && decide (y = Str.ofString f))
  | _ => false
theorem err1 {P : Program} {w : PySem.World} {K : PySem.W.Frag} {mg : Str → Option Value} {base : Heap} {x qual : Str} {params : Arguments} {body : List Stmt} {scope : Scope} {fI C : Addr} {fd : FuncData} {c f : String} (F : FunD K x qual params body scope [] [] fI fd) (Sc : FnScope ["self", Str.ofString f] ["self", Str.ofString f] scope)
    (hb : ini1 f body = true) (hl1 : scope.names.lookup ("self" : Str) = some .local) (hl2 : scope.names.lookup (Str.ofString f) = some .local) (hd : (Str.ofString f == ("__debug__" : Str)) = false) (hcd : (Str.ofString f == ("__classdict__" : Str)) = false)
    (hm : mg (Str.ofString c) = some (.ref C)) (hO : oexB K C = true) (hX : xfB K C = true) (hI : PySem.W.findIn K (.ref C) "__init__" = some (some (.ref fI))) (hT : PySem.W.typeIn K (.ref fI) = some (.type "function")) (hno : PySem.W.findIn K (.ref C) (Str.ofString f) = some none)
    (bi : Binds K fd ["self", Str.ofString f] []) : ErrOk P w K mg base c [f] := by
  have O := oexB_ok hO
  refine ⟨C, fI, fd, hm, O, hI, hT, O.kC, ?_, bi, xfB_ok hX, fun g hg => by rw [List.mem_singleton.mp hg]; exact hno⟩
  refine F.ok (k := 1) Sc (fun vs H Q E h => ?_) fun cdv A outer s H vs Q E hr h => ?_
  · obtain ⟨a, ws, rfl, hl, _⟩ := h
    rw [List.length_cons, hl]; rfl
  · obtain ⟨a, ws, rfl, hl, _, ha, q⟩ := h
    obtain ⟨v, rfl⟩ : ∃ v, ws = [v] := by
      rcases ws with _ | ⟨v, _ | ⟨u, ws⟩⟩
      · simp at hl
      · exact ⟨v, rfl⟩
      · simp at hl
    unfold ini1 at hb
    split at hb
    · rename_i s0 p1 g p2 y p3 p4
      simp only [Bool.and_eq_true, decide_eq_true_eq] at hb
      obtain ⟨rfl, rfl, rfl⟩ := hb
      refine ⟨_, PSs.nox (pss_one (ps_ost (pe_var (i := 0) rfl (.inl hl1) (by decide) (by decide)) (pe_var (i := 1) rfl (.inl hl2) hd hcd))), ?_⟩
      refine ⟨v, rfl, .ref a, rfl, a, C, rfl, O, hno, .inl ⟨ha, fun dx hdn hda => q dx [(Str.ofString f, v)] hdn hda fun i g u h1 h2 => ?_⟩⟩
      cases i with
      | zero =>
        cases h1; cases h2
        rw [List.lookup_cons]
        simp
      | succ i => simp at h1
    · cases hb
/-! ### a dict of texts -/
def gdT (K : PySem.W.Frag) (a : Addr) (kvs : List (List Nat × List Nat)) : Bool := (match K.lookup a with
  | some ⟨_, _, .dict es _, _⟩ => es.toList.all fun e => match e.key with
    | .str x _ => kvs.any fun q => decide (x = (⟨q.1.toArray⟩ : Str))
    | _ => false
  | _ => false) && kvs.all fun q => match PySem.W.nsIn K a ⟨q.1.toArray⟩ with
  | some (some (.str y _)) => decide (y = (⟨q.2.toArray⟩ : Str))
  | _ => false
theorem look_map : ∀ (kvs : List (List Nat × List Nat)) (t : List Nat), match look (kvs.map fun q => D.str q.1) (kvs.map fun q => D.str q.2) (.str t) with
    | some r => ∃ q ∈ kvs, q.1 = t ∧ r = .str q.2
    | none => ∀ q ∈ kvs, q.1 ≠ t
  | [], t => by simp [look]
  | q :: kvs, t => by
    rw [List.map_cons, List.map_cons, look]
    by_cases h : sameK (.str q.1) (.str t) = true
    · rw [if_pos h]
      exact ⟨q, by simp, by simpa [sameK] using h, rfl⟩
    · rw [if_neg h]
      have ih := look_map kvs t
      split
      · rename_i r hr
        rw [hr] at ih
        obtain ⟨p, hp, e⟩ := ih
        exact ⟨p, by simp [hp], e⟩
      · rename_i hr
        rw [hr] at ih
        intro p hp
        rcases List.mem_cons.mp hp with rfl | hp
        · simpa [sameK] using h
        · exact ih p hp
theorem gdT_ok {K : PySem.W.Frag} {a : Addr} {kvs : List (List Nat × List Nat)} (h : gdT K a kvs = true) (t : List Nat) : match look (kvs.map fun q => D.str q.1) (kvs.map fun q => D.str q.2) (.str t) with
    | some r => ∃ u v, PySem.W.nsIn K a ⟨t.toArray⟩ = some (some u) ∧ RelV v u ∧ ∀ φ L H, Rep K φ L H r v
    | none => PySem.W.nsIn K a ⟨t.toArray⟩ = some none := by
  unfold gdT at h
  rw [Bool.and_eq_true] at h
  obtain ⟨h1, h2⟩ := h
  have lm := look_map kvs t
  split
  · rename_i r hr
    rw [hr] at lm
    obtain ⟨q, hq, rfl, rfl⟩ := lm
    have h3 := List.all_eq_true.mp h2 q hq
    split at h3
    · rename_i y tk e
      have e2 := of_decide_eq_true h3
      subst e2
      exact ⟨_, .str ⟨q.2.toArray⟩, e, ⟨tk, rfl⟩, fun φ L H => .str q.2⟩
    · cases h3
  · rename_i hr
    rw [hr] at lm
    unfold PySem.W.nsIn
    split at h1
    · rename_i c1 d1 es n s1 hl
      rw [hl]
      dsimp only
      have key : ∀ e ∈ es.toList, (e.key.isStr ⟨t.toArray⟩) = false ∧ e.refKey = false := fun e he => by
        have h3 := List.all_eq_true.mp h1 e he
        split at h3
        · rename_i x hh hk
          obtain ⟨q, hq, hx⟩ := List.any_eq_true.mp h3
          have hx := of_decide_eq_true hx
          have ne : x ≠ (⟨t.toArray⟩ : Str) := fun e => lm q hq (by
            rw [hx] at e
            exact str_inj e)
          constructor
          · rw [hk]
            simp [Value.isStr, ne]
          · unfold DictEntry.refKey
            rw [hk]
        · cases h3
      have hf : es.toList.find? (fun e => e.key.isStr ⟨t.toArray⟩) = none := by
        rw [List.find?_eq_none]
        intro e he
        rw [(key e he).1]; exact Bool.false_ne_true
      have ha : es.toList.any (fun e => e.refKey) = false := by
        rw [List.any_eq_false]
        intro e he
        rw [(key e he).2]; exact Bool.false_ne_true
      rw [hf]
      dsimp only
      rw [ha]; rfl
    · cases h1
/-- a call by keywords alone -/
theorem bindsKw {K : PySem.W.Frag} {x qual : Str} {params : Arguments} {body : List Stmt} {scope : Scope} {kws : List (Str × V)} {f : Addr} {fd : FuncData} {args : Args} {r : List (Str × Value)} (F : FunD K x qual params body scope [] kws f fd)
    (h : ∀ (kV doc pm : Value) (an : Option Addr) (cdv ct : Value), bindArgs (PySem.W.fnOf x qual params body scope .none kV doc pm an cdv ct) args = pure r) (s : Shared) : BindsTo s fd args r := by
  obtain ⟨oc, od, dV, kV, doc, pm, an, cdv, ct, osl, rfl, lk, hcd, hD, hK⟩ := F.ex
  rcases hD with ⟨_, rfl⟩ | ⟨e, _⟩
  · exact .of_eq (h kV doc pm an cdv ct)
  · exact absurd rfl e
end Ev
/-! K87f: the compact text of law k87's defs. -/
namespace Ev
namespace K87
open PySem L2
def f_law : FDef := ⟨"law", 1, 21, (.trim 9),
  (.cons (.set (.one 1) (.cal "_law_jar" (.cons (.var 0) .nil))) (.cons (.set (.one 2) (.cmp .Eq (.cal "_law_draw" (.cons (.var 1) (.cons (.con (.int 13)) .nil))) (.con (.int 8)))) (.cons (.set (.one 3) (.ite (.var 2) (.con (.int 24)) (.bin .Add (.con (.int 1)) (.cal "_law_draw" (.cons (.var 1) (.cons (.con (.int 6)) .nil)))))) (.cons (.set (.one 4) (.cal "_law_template" (.cons (.var 1) (.cons (.blt .min2 (.cons (.var 3) (.cons (.con (.int 12)) .nil))) (.cons (.bin .Add (.con (.int 1)) (.cal "_law_draw" (.cons (.var 1) (.cons (.ite (.var 2) (.con (.int 2)) (.con (.int 3))) .nil)))) .nil))))) (.cons (.ifs (.var 2) (.cons (.set (.one 14) (.cal "_law_template" (.cons (.var 1) (.cons (.con (.int 12)) (.cons (.con (.int 2)) .nil))))) (.cons (.set (.one 15) (.blt .tuple (.cons (.comp [8] (.one 8) (.rng1 (.con (.int 12))) .no (.tup (.cons (.bin .Add (.con (.str [110])) (.blt .str1 (.cons (.var 8) .nil))) (.cons (.idx (.idx (.idx (.var 14) (.con (.int 0))) (.var 8)) (.con (.int 1))) (.cons (.idx (.idx (.idx (.var 14) (.con (.int 0))) (.var 8)) (.con (.int 2))) .nil))))) .nil))) (.cons (.set (.one 4) (.tup (.cons (.bin .Add (.idx (.var 4) (.con (.int 0))) (.var 15)) (.cons (.tup (.cons (.con (.str [114, 111, 119])) (.cons (.con (.str [])) (.cons (.cal "_law_text" (.cons (.var 1) .nil)) (.cons (.con .non) (.cons (.con (.str [])) (.cons (.tup (.cons (.idx (.var 4) (.con (.int 1))) (.cons (.cal "_law_moved" (.cons (.idx (.var 14) (.con (.int 1))) (.cons (.con (.int 12)) .nil))) .nil))) .nil))))))) (.cons (.con (.str [])) .nil))))) .nil))) .nil) (.cons (.set (.one 5) (.ite (.var 2) (.con .non) (.cal "_law_rows" (.cons (.var 4) .nil)))) (.cons (.set (.one 6) (.comp [19] (.one 19) (.seq (.idx (.var 4) (.con (.int 0)))) .no (.idx (.var 19) (.con (.int 2))))) (.cons (.set (.one 7) (.cal "_law_longest" (.cons (.var 4) (.cons (.var 5) (.cons (.var 6) .nil))))) (.cons (.ifs (.nt (.cal "_law_same" (.cons (.cal "longest" (.cons (.var 4) .nil)) (.cons (.var 7) .nil)))) (.cons (.ret (.con (.bl false))) .nil) .nil) (.cons (.for_ (.one 8) (.rng1 (.ite (.var 2) (.con (.int 2)) (.con (.int 3)))) (.cons (.set (.one 16) (.cal "_law_draw" (.cons (.var 1) (.cons (.var 3) .nil)))) (.cons (.set (.one 17) (.ite (.cmp .Lt (.var 8) (.con (.int 2))) (.blt .max2 (.cons (.con (.int 0)) (.cons (.bin .Add (.bin .Sub (.var 7) (.con (.int 4))) (.cal "_law_draw" (.cons (.var 1) (.cons (.con (.int 9)) .nil)))) .nil))) (.bin .Add (.var 7) (.cal "_law_draw" (.cons (.var 1) (.cons (.con (.int 40)) .nil)))))) (.cons (.ifs (.nt (.cal "_law_asked" (.cons (.var 4) (.cons (.var 5) (.cons (.var 16) (.cons (.var 17) .nil)))))) (.cons (.ret (.con (.bl false))) .nil) .nil) .nil)))) (.cons (.par [16, 17] (.cons (.cal "_law_draw" (.cons (.var 1) (.cons (.var 3) .nil))) (.cons (.bin .Add (.var 7) (.cal "_law_draw" (.cons (.var 1) (.cons (.con (.int 3)) .nil)))) .nil))) (.cons (.for_ (.one 9) (.seq (.tup (.cons (.var 17) (.cons (.con (.int 0)) (.cons (.con (.int 9999)) .nil))))) (.cons (.set (.one 18) (.live (.lst .nil))) (.cons (.for_ (.one 8) (.rng1 (.var 3)) (.cons (.set (.one 20) (.cal "_law_most" (.cons (.var 4) (.cons (.var 5) (.cons (.var 8) (.cons (.var 9) .nil)))))) (.cons (.ifs (.and (.cons (.cmp .IsNot (.var 20) (.con .non)) (.cons (.cmp .Gt (.var 20) (.idx (.var 6) (.var 8))) .nil))) (.cons (.expr (.mth .append (.var 18) (.cons (.idx (.idx (.idx (.var 4) (.con (.int 0))) (.var 8)) (.con (.int 0))) .nil))) .nil) .nil) .nil))) (.cons (.ifs (.nt (.cal "_law_same" (.cons (.cal "room_for" (.cons (.var 4) (.cons (.var 9) .nil))) (.cons (.blt .tuple (.cons (.blt .sorted (.cons (.var 18) .nil)) .nil)) .nil)))) (.cons (.ret (.con (.bl false))) .nil) .nil) .nil)))) (.cons (.ifs (.nt (.cal "_law_same" (.cons (.calk "most_for" ["number", "name", "template"] (.cons (.con (.int 0)) (.cons (.idx (.idx (.idx (.var 4) (.con (.int 0))) (.var 16)) (.con (.int 0))) (.cons (.var 4) .nil)))) (.cons (.con .non) .nil)))) (.cons (.ret (.con (.bl false))) .nil) .nil) (.cons (.set (.one 10) (.idx (.tup (.cons (.con (.str [110, 111, 98, 111, 100, 121, 57])) (.cons (.con (.str [])) (.cons (.con (.str [110, 111, 110, 101])) (.cons (.con (.str [65])) .nil))))) (.cal "_law_draw" (.cons (.var 1) (.cons (.con (.int 4)) .nil))))) (.cons (.set (.one 11) (.idx (.tup (.cons (.con (.int 0)) (.cons (.con (.int 41)) (.cons (.neg (.con (.int 1))) (.cons (.con (.int 40)) .nil))))) (.cal "_law_draw" (.cons (.var 1) (.cons (.con (.int 4)) .nil))))) (.cons (.set (.one 12) (.tup (.cons (.cal "_law_refused" (.cons (.con (.int 0)) (.cons (.var 4) (.cons (.var 10) (.cons (.var 17) .nil))))) (.cons (.cal "_law_refused" (.cons (.con (.int 1)) (.cons (.var 4) (.cons (.var 10) (.cons (.var 11) .nil))))) (.cons (.cal "_law_refused" (.cons (.con (.int 1)) (.cons (.var 4) (.cons (.idx (.idx (.idx (.var 4) (.con (.int 0))) (.var 16)) (.con (.int 0))) (.cons (.var 11) .nil))))) .nil))))) (.cons (.set (.one 13) (.ite (.cmp .Eq (.var 11) (.con (.int 40))) (.tup (.cons (.con (.str [116, 111, 108, 100])) (.cons (.cal "_law_changed" (.cons (.var 4) (.cons (.var 16) (.cons (.con (.int 40)) .nil)))) .nil))) (.tup (.cons (.con (.str [114, 101, 102, 117, 115, 101, 100])) (.cons (.con (.str [109, 111, 115, 116])) .nil))))) (.cons (.ret (.cal "_law_same" (.cons (.var 12) (.cons (.tup (.cons (.tup (.cons (.con (.str [114, 101, 102, 117, 115, 101, 100])) (.cons (.con (.str [102, 105, 101, 108, 100])) .nil))) (.cons (.tup (.cons (.con (.str [114, 101, 102, 117, 115, 101, 100])) (.cons (.con (.str [102, 105, 101, 108, 100])) .nil))) (.cons (.var 13) .nil)))) .nil)))) .nil))))))))))))))))))⟩
def f__law_jar : FDef := ⟨"_law_jar", 1, 4, .raw,
  (.cons (.set (.one 1) (.comp [3] (.one 3) (.seq (.slc (.var 0) .no (.so (.con (.int 40))))) .no (.bin .Mod (.blt .int1 (.cons (.var 3) .nil)) (.con (.int 1000289))))) (.cons (.set (.one 2) (.bin .Add (.con (.int 43)) (.bin .Mod (.blt .len (.cons (.var 0) .nil)) (.con (.int 67))))) (.cons (.for_ (.one 3) (.seq (.var 1)) (.cons (.set (.one 2) (.bin .Mod (.bin .Add (.bin .Mult (.var 2) (.con (.int 37))) (.var 3)) (.con (.int 999683)))) .nil)) (.cons (.ret (.live (.lst (.cons (.con (.int 0)) (.cons (.bin .Add (.var 1) (.lst (.cons (.var 2) .nil))) .nil))))) .nil))))⟩
def f__law_draw : FDef := ⟨"_law_draw", 2, 5, .raw,
  (.cons (.put (.var 0) (.con (.int 0)) (.bin .Add (.idx (.var 0) (.con (.int 0))) (.con (.int 1)))) (.cons (.par [3, 4] (.cons (.idx (.var 0) (.con (.int 0))) (.cons (.idx (.var 0) (.con (.int 1))) .nil))) (.cons (.set (.one 2) (.bin .Add (.bin .Add (.bin .Mult (.idx (.var 4) (.bin .Mod (.var 3) (.blt .len (.cons (.var 4) .nil)))) (.bin .Add (.bin .Mult (.con (.int 5)) (.var 3)) (.con (.int 2207)))) (.bin .Mult (.idx (.var 4) (.bin .Mod (.bin .Add (.bin .Mult (.con (.int 3)) (.var 3)) (.con (.int 1))) (.blt .len (.cons (.var 4) .nil)))) (.con (.int 2011)))) (.bin .Mult (.bin .Mult (.var 3) (.var 3)) (.con (.int 38011))))) (.cons (.ret (.bin .Mod (.bin .FloorDiv (.bin .Mod (.var 2) (.con (.int 2147483423))) (.con (.int 15))) (.var 1))) .nil))))⟩
def f__law_template : FDef := ⟨"_law_template", 3, 9, .raw,
  (.cons (.set (.one 3) (.tup (.cons (.con (.str [110, 111])) (.cons (.con (.str [107])) (.cons (.con (.str [115, 116, 114, 101, 101, 116])) (.cons (.con (.str [98, 50])) (.cons (.con (.str [97])) (.cons (.con (.str [122, 122, 57])) (.cons (.con (.str [104])) (.cons (.con (.str [109, 109])) (.cons (.con (.str [119, 101, 115, 116])) (.cons (.con (.str [112])) (.cons (.con (.str [99])) (.cons (.con (.str [114, 111, 119, 49])) (.cons (.con (.str [100, 100])) .nil))))))))))))))) (.cons (.par [6, 7] (.cons (.cal "_law_draw" (.cons (.var 0) (.cons (.con (.int 13)) .nil))) (.cons (.bin .Add (.con (.int 1)) (.cal "_law_draw" (.cons (.var 0) (.cons (.con (.int 12)) .nil)))) .nil))) (.cons (.set (.one 4) (.tup .nil)) (.cons (.for_ (.one 5) (.rng1 (.var 1)) (.cons (.set (.one 8) (.idx (.tup (.cons (.con (.str [108, 101, 116, 116, 101, 114, 115])) (.cons (.con (.str [100, 105, 103, 105, 116, 115])) (.cons (.con (.str [115, 105, 103, 110, 115])) .nil)))) (.cal "_law_draw" (.cons (.var 0) (.cons (.con (.int 3)) .nil))))) (.cons (.set (.one 4) (.bin .Add (.var 4) (.tup (.cons (.tup (.cons (.idx (.var 3) (.bin .Mod (.bin .Add (.var 6) (.bin .Mult (.var 5) (.var 7))) (.con (.int 13)))) (.cons (.var 8) (.cons (.idx (.tup (.cons (.con (.int 1)) (.cons (.con (.int 2)) (.cons (.con (.int 3)) (.cons (.con (.int 9)) (.cons (.con (.int 40)) (.cons (.con (.int 4)) .nil))))))) (.cal "_law_draw" (.cons (.var 0) (.cons (.con (.int 6)) .nil)))) .nil)))) .nil)))) .nil))) (.cons (.ret (.tup (.cons (.var 4) (.cons (.cal "_law_part" (.cons (.var 0) (.cons (.con (.int 0)) (.cons (.var 1) (.cons (.var 2) .nil))))) (.cons (.ite (.cal "_law_draw" (.cons (.var 0) (.cons (.con (.int 2)) .nil))) (.cal "_law_text" (.cons (.var 0) .nil)) (.con (.str []))) .nil))))) .nil)))))⟩
def f__law_text : FDef := ⟨"_law_text", 1, 1, .raw,
  (.cons (.ret (.idx (.tup (.cons (.con (.str [])) (.cons (.con (.str [59, 32])) (.cons (.con (.str [45, 45])) (.cons (.con (.str [32])) (.cons (.con (.str [])) (.cons (.con (.str [58])) (.cons (.con (.str [40, 32])) (.cons (.con (.str [120])) (.cons (.con (.str [])) (.cons (.con (.str [44, 32])) (.cons (.con (.str [101, 116, 99])) .nil)))))))))))) (.cal "_law_draw" (.cons (.var 0) (.cons (.con (.int 11)) .nil))))) .nil)⟩
def f__law_moved : FDef := ⟨"_law_moved", 2, 3, .raw,
  (.cons (.ifs (.cmp .Eq (.idx (.var 0) (.con (.int 0))) (.con (.str [102, 105, 101, 108, 100]))) (.cons (.ret (.bin .Add (.tup (.cons (.idx (.var 0) (.con (.int 0))) (.cons (.bin .Add (.idx (.var 0) (.con (.int 1))) (.var 1)) .nil))) (.slc (.var 0) (.so (.con (.int 2))) .no))) .nil) .nil) (.cons (.ret (.bin .Add (.slc (.var 0) .no (.so (.neg (.con (.int 1))))) (.tup (.cons (.blt .tuple (.cons (.comp [2] (.one 2) (.seq (.idx (.var 0) (.neg (.con (.int 1))))) .no (.cal "_law_moved" (.cons (.var 2) (.cons (.var 1) .nil)))) .nil)) .nil)))) .nil))⟩
def f__law_rows : FDef := ⟨"_law_rows", 1, 9, (.trim 9),
  (.cons (.par [3, 4, 5] (.cons (.live (.lst .nil)) (.cons (.blt .len (.cons (.idx (.var 0) (.con (.int 0))) .nil)) (.cons (.lst (.cons (.lst .nil) .nil)) .nil)))) (.cons (.for_ (.one 1) (.rng1 (.var 4)) (.cons (.set (.one 5) (.bin .Add (.var 5) (.comp [7] (.one 7) (.seq (.var 5)) .no (.bin .Add (.var 7) (.lst (.cons (.var 1) .nil)))))) .nil)) (.cons (.for_ (.one 2) (.seq (.slc (.var 5) (.so (.con (.int 1))) .no)) (.cons (.set (.one 6) (.cal "_law_put" (.cons (.idx (.var 0) (.con (.int 1))) (.cons (.comp [1] (.one 1) (.rng1 (.var 4)) .no (.ite (.cmp .In (.var 1) (.var 2)) (.con (.str [])) (.con .non))) .nil)))) (.cons (.expr (.mth .append (.var 3) (.cons (.tup (.cons (.blt .sum (.cons (.comp [1, 8] (.tup (.cons (.one 1) (.cons (.one 8) .nil))) (.seq (.var 6)) .no (.blt .len (.cons (.var 8) .nil))) .nil)) (.cons (.comp [1, 8] (.tup (.cons (.one 1) (.cons (.one 8) .nil))) (.seq (.var 6)) (.so (.cmp .GtE (.var 1) (.con (.int 0)))) (.var 1)) .nil))) .nil))) .nil))) (.cons (.ret (.var 3)) .nil))))⟩
def f__law_longest : FDef := ⟨"_law_longest", 3, 6, .raw,
  (.cons (.ifs (.cmp .Is (.var 1) (.con .non)) (.cons (.ret (.cal "_law_great" (.cons (.idx (.var 0) (.con (.int 1))) (.cons (.var 2) .nil)))) .nil) .nil) (.cons (.ret (.blt .max1 (.cons (.comp [3, 4] (.tup (.cons (.one 3) (.cons (.one 4) .nil))) (.seq (.var 1)) .no (.bin .Add (.var 3) (.blt .sum (.cons (.comp [5] (.one 5) (.seq (.var 4)) .no (.idx (.var 2) (.var 5))) .nil)))) .nil))) .nil))⟩
def f__law_same : FDef := ⟨"_law_same", 2, 7, (.trim 9),
  (.cons (.set (.one 2) (.live (.lst (.cons (.tup (.cons (.var 0) (.cons (.var 1) .nil))) .nil)))) (.cons (.for_ (.one 3) (.rng1 (.con (.int 3000000))) (.cons (.ifs (.cmp .Eq (.blt .len (.cons (.var 2) .nil)) (.con (.int 0))) (.cons (.ret (.con (.bl true))) .nil) .nil) (.cons (.set (.tup (.cons (.one 4) (.cons (.one 5) .nil))) (.mth .pop (.var 2) .nil)) (.cons (.ifs (.or (.cons (.isi (.var 5) "tuple") (.cons (.isi (.var 5) "list") .nil))) (.cons (.ifs (.and (.cons (.isi (.var 5) "tuple") (.cons (.nt (.isi (.var 4) "tuple")) .nil))) (.cons (.ret (.con (.bl false))) .nil) .nil) (.cons (.ifs (.and (.cons (.isi (.var 5) "list") (.cons (.nt (.isi (.var 4) "list")) .nil))) (.cons (.ret (.con (.bl false))) .nil) .nil) (.cons (.ifs (.cmp .NotEq (.blt .len (.cons (.var 4) .nil)) (.blt .len (.cons (.var 5) .nil))) (.cons (.ret (.con (.bl false))) .nil) .nil) (.cons (.for_ (.one 6) (.rng1 (.blt .len (.cons (.var 5) .nil))) (.cons (.expr (.mth .append (.var 2) (.cons (.tup (.cons (.idx (.var 4) (.var 6)) (.cons (.idx (.var 5) (.var 6)) .nil))) .nil))) .nil)) .nil)))) (.cons (.ifs (.cmp .Is (.var 5) (.con .non)) (.cons (.ifs (.cmp .IsNot (.var 4) (.con .non)) (.cons (.ret (.con (.bl false))) .nil) .nil) .nil) (.cons (.ifs (.isi (.var 5) "bool") (.cons (.ifs (.or (.cons (.nt (.isi (.var 4) "bool")) (.cons (.cmp .NotEq (.var 4) (.var 5)) .nil))) (.cons (.ret (.con (.bl false))) .nil) .nil) .nil) (.cons (.ifs (.isi (.var 5) "int") (.cons (.ifs (.or (.cons (.nt (.isi (.var 4) "int")) (.cons (.isi (.var 4) "bool") (.cons (.cmp .NotEq (.var 4) (.var 5)) .nil)))) (.cons (.ret (.con (.bl false))) .nil) .nil) .nil) (.cons (.ifs (.or (.cons (.nt (.isi (.var 5) "str")) (.cons (.nt (.isi (.var 4) "str")) (.cons (.cmp .NotEq (.var 4) (.var 5)) .nil)))) (.cons (.ret (.con (.bl false))) .nil) .nil) .nil)) .nil)) .nil)) .nil)) .nil)))) (.cons (.ret (.con (.bl false))) .nil)))⟩
def f_longest : FDef := ⟨"longest", 1, 1, .raw,
  (.cons (.ret (.idx (.cal "best_of" (.cons (.var 0) (.cons (.idx (.var 0) (.con (.int 1))) (.cons (.con (.bl true)) .nil)))) (.con (.int 0)))) .nil)⟩
def f__law_asked : FDef := ⟨"_law_asked", 4, 8, .raw,
  (.cons (.par [6, 7] (.cons (.cal "_law_most" (.cons (.var 0) (.cons (.var 1) (.cons (.var 2) (.cons (.var 3) .nil))))) (.cons (.idx (.idx (.idx (.var 0) (.con (.int 0))) (.var 2)) (.con (.int 0))) .nil))) (.cons (.ifs (.nt (.cal "_law_same" (.cons (.cal "_law_refused" (.cons (.con (.int 0)) (.cons (.var 0) (.cons (.var 7) (.cons (.var 3) .nil))))) (.cons (.tup (.cons (.con (.str [116, 111, 108, 100])) (.cons (.var 6) .nil))) .nil)))) (.cons (.ret (.con (.bl false))) .nil) .nil) (.cons (.ifs (.cmp .Is (.var 6) (.con .non)) (.cons (.ret (.cal "_law_breaks" (.cons (.var 0) (.cons (.var 3) (.cons (.cal "verdict_of" (.cons (.var 0) (.cons (.tup (.cons (.con (.str [109, 111, 115, 116])) (.cons (.var 3) .nil))) .nil))) .nil))))) .nil) .nil) (.cons (.set (.one 4) (.cal "_law_changed" (.cons (.var 0) (.cons (.var 2) (.cons (.var 6) .nil))))) (.cons (.ifs (.nt (.cal "_law_same" (.cons (.cal "_law_refused" (.cons (.con (.int 1)) (.cons (.var 0) (.cons (.var 7) (.cons (.var 6) .nil))))) (.cons (.tup (.cons (.con (.str [116, 111, 108, 100])) (.cons (.var 4) .nil))) .nil)))) (.cons (.ret (.con (.bl false))) .nil) .nil) (.cons (.ifs (.nt (.cal "_law_same" (.cons (.cal "verdict_of" (.cons (.var 4) (.cons (.tup (.cons (.con (.str [109, 111, 115, 116])) (.cons (.var 3) .nil))) .nil))) (.cons (.tup (.cons (.con (.str [107, 101, 112, 116])) .nil)) .nil)))) (.cons (.ret (.con (.bl false))) .nil) .nil) (.cons (.ifs (.cmp .Eq (.var 6) (.con (.int 40))) (.cons (.ret (.con (.bl true))) .nil) .nil) (.cons (.set (.one 5) (.cal "_law_changed" (.cons (.var 0) (.cons (.var 2) (.cons (.bin .Add (.var 6) (.con (.int 1))) .nil))))) (.cons (.ret (.cal "_law_breaks" (.cons (.var 5) (.cons (.var 3) (.cons (.cal "verdict_of" (.cons (.var 5) (.cons (.tup (.cons (.con (.str [109, 111, 115, 116])) (.cons (.var 3) .nil))) .nil))) .nil))))) .nil)))))))))⟩
def f__law_most : FDef := ⟨"_law_most", 4, 9, .raw,
  (.cons (.par [4, 5, 6] (.cons (.comp [8] (.one 8) (.seq (.idx (.var 0) (.con (.int 0)))) .no (.idx (.var 8) (.con (.int 2)))) (.cons (.con (.int 0)) (.cons (.con (.int 41)) .nil)))) (.cons (.whl (.cmp .Gt (.bin .Sub (.var 6) (.var 5)) (.con (.int 1))) (.cons (.set (.one 7) (.bin .FloorDiv (.bin .Add (.var 5) (.var 6)) (.con (.int 2)))) (.cons (.ifs (.cmp .LtE (.cal "_law_longest" (.cons (.var 0) (.cons (.var 1) (.cons (.bin .Add (.bin .Add (.slc (.var 4) .no (.so (.var 2))) (.lst (.cons (.var 7) .nil))) (.slc (.var 4) (.so (.bin .Add (.var 2) (.con (.int 1)))) .no)) .nil)))) (.var 3)) (.cons (.set (.one 5) (.var 7)) .nil) (.cons (.set (.one 6) (.var 7)) .nil)) .nil))) (.cons (.ret (.ite (.cmp .Gt (.var 5) (.con (.int 0))) (.var 5) (.con .non))) .nil)))⟩
def f_room_for : FDef := ⟨"room_for", 2, 4, .raw,
  (.cons (.ret (.blt .tuple (.cons (.blt .sorted (.cons (.comp [2, 3] (.tup (.cons (.one 2) (.cons (.one 3) .nil))) (.enu (.cal "field_names" (.cons (.var 0) .nil))) (.so (.cal "has_room" (.cons (.var 0) (.cons (.var 2) (.cons (.var 1) .nil))))) (.var 3)) .nil)) .nil))) .nil)⟩
def f_most_for : FDef := ⟨"most_for", 3, 3, .raw,
  (.cons (.ret (.cal "most_at" (.cons (.var 0) (.cons (.cal "field_number" (.cons (.var 0) (.cons (.var 1) .nil))) (.cons (.var 2) .nil))))) .nil)⟩
def f__law_refused : FDef := ⟨"_law_refused", 4, 5, .raw,
  (.cons (.tryr (.cons (.ret (.tup (.cons (.con (.str [116, 111, 108, 100])) (.cons (.ite (.cmp .Eq (.var 0) (.con (.int 0))) (.cal "most_for" (.cons (.var 1) (.cons (.var 2) (.cons (.var 3) .nil)))) (.cal "with_most" (.cons (.var 1) (.cons (.var 2) (.cons (.var 3) .nil))))) .nil)))) .nil) "BadStep" 4 (.cons (.con (.str [114, 101, 102, 117, 115, 101, 100])) (.cons (.exf 4 "word") .nil))) .nil)⟩
def f__law_changed : FDef := ⟨"_law_changed", 3, 6, .raw,
  (.cons (.set (.tup (.cons (.one 3) (.cons (.one 4) (.cons (.one 5) .nil)))) (.idx (.idx (.var 0) (.con (.int 0))) (.var 1))) (.cons (.ret (.tup (.cons (.bin .Add (.bin .Add (.slc (.idx (.var 0) (.con (.int 0))) .no (.so (.var 1))) (.tup (.cons (.tup (.cons (.var 3) (.cons (.var 4) (.cons (.var 2) .nil)))) .nil))) (.slc (.idx (.var 0) (.con (.int 0))) (.so (.bin .Add (.var 1) (.con (.int 1)))) .no)) (.cons (.idx (.var 0) (.con (.int 1))) (.cons (.idx (.var 0) (.con (.int 2))) .nil))))) .nil))⟩
def f__law_part : FDef := ⟨"_law_part", 4, 9, (.trim 9),
  (.cons (.ifs (.and (.cons (.cmp .Eq (.bin .Sub (.var 2) (.var 1)) (.con (.int 1))) (.cons (.or (.cons (.cmp .Eq (.var 3) (.con (.int 0))) (.cons (.cmp .Gt (.cal "_law_draw" (.cons (.var 0) (.cons (.con (.int 5)) .nil))) (.con (.int 0))) .nil))) .nil))) (.cons (.ret (.tup (.cons (.con (.str [102, 105, 101, 108, 100])) (.cons (.var 1) (.cons (.ite (.cmp .Eq (.cal "_law_draw" (.cons (.var 0) (.cons (.con (.int 3)) .nil))) (.con (.int 0))) (.cal "_law_text" (.cons (.var 0) .nil)) (.con (.str []))) (.cons (.ite (.cmp .Eq (.cal "_law_draw" (.cons (.var 0) (.cons (.con (.int 3)) .nil))) (.con (.int 0))) (.cal "_law_text" (.cons (.var 0) .nil)) (.con (.str []))) .nil)))))) .nil) .nil) (.cons (.set (.one 4) (.live (.lst (.cons (.var 1) .nil)))) (.cons (.for_ (.one 5) (.rng2 (.bin .Add (.var 1) (.con (.int 1))) (.var 2)) (.cons (.ifs (.or (.cons (.cmp .Eq (.var 3) (.con (.int 1))) (.cons (.cmp .Gt (.cal "_law_draw" (.cons (.var 0) (.cons (.con (.int 3)) .nil))) (.con (.int 0))) .nil))) (.cons (.expr (.mth .append (.var 4) (.cons (.var 5) .nil))) .nil) .nil) .nil)) (.cons (.expr (.mth .append (.var 4) (.cons (.var 2) .nil))) (.cons (.set (.one 6) (.blt .tuple (.cons (.comp [5] (.one 5) (.rng1 (.bin .Sub (.blt .len (.cons (.var 4) .nil)) (.con (.int 1)))) .no (.cal "_law_part" (.cons (.var 0) (.cons (.idx (.var 4) (.var 5)) (.cons (.idx (.var 4) (.bin .Add (.var 5) (.con (.int 1)))) (.cons (.bin .Sub (.var 3) (.con (.int 1))) .nil)))))) .nil))) (.cons (.ifs (.cmp .Eq (.cal "_law_draw" (.cons (.var 0) (.cons (.con (.int 3)) .nil))) (.con (.int 0))) (.cons (.ret (.tup (.cons (.con (.str [101, 105, 116, 104, 101, 114])) (.cons (.var 6) .nil)))) .nil) .nil) (.cons (.par [7, 8] (.cons (.ite (.cmp .Eq (.cal "_law_draw" (.cons (.var 0) (.cons (.con (.int 3)) .nil))) (.con (.int 0))) (.cal "_law_text" (.cons (.var 0) .nil)) (.con (.str []))) (.cons (.ite (.cmp .Eq (.cal "_law_draw" (.cons (.var 0) (.cons (.con (.int 3)) .nil))) (.con (.int 0))) (.cal "_law_text" (.cons (.var 0) .nil)) (.con (.str []))) .nil))) (.cons (.ret (.tup (.cons (.con (.str [114, 111, 119])) (.cons (.var 7) (.cons (.cal "_law_text" (.cons (.var 0) .nil)) (.cons (.ite (.cal "_law_draw" (.cons (.var 0) (.cons (.con (.int 2)) .nil))) (.cal "_law_text" (.cons (.var 0) .nil)) (.con .non)) (.cons (.var 8) (.cons (.var 6) .nil)))))))) .nil))))))))⟩
def f__law_put : FDef := ⟨"_law_put", 2, 6, (.trim 9),
  (.cons (.ifs (.cmp .Eq (.idx (.var 0) (.con (.int 0))) (.con (.str [102, 105, 101, 108, 100]))) (.cons (.ret (.lst (.cons (.tup (.cons (.neg (.con (.int 1))) (.cons (.idx (.var 0) (.con (.int 2))) .nil))) (.cons (.tup (.cons (.idx (.var 0) (.con (.int 1))) (.cons (.idx (.var 1) (.idx (.var 0) (.con (.int 1)))) .nil))) (.cons (.tup (.cons (.neg (.con (.int 1))) (.cons (.idx (.var 0) (.con (.int 3))) .nil))) .nil))))) .nil) .nil) (.cons (.set (.one 2) (.comp [5] (.one 5) (.seq (.idx (.var 0) (.bin .Sub (.blt .len (.cons (.var 0) .nil)) (.con (.int 1))))) (.so (.cal "_law_given" (.cons (.var 5) (.cons (.var 1) .nil)))) (.var 5))) (.cons (.ifs (.cmp .Eq (.idx (.var 0) (.con (.int 0))) (.con (.str [101, 105, 116, 104, 101, 114]))) (.cons (.ret (.cal "_law_put" (.cons (.idx (.var 2) (.con (.int 0))) (.cons (.var 1) .nil)))) .nil) .nil) (.cons (.set (.one 3) (.live (.lst (.cons (.tup (.cons (.neg (.con (.int 1))) (.cons (.idx (.var 0) (.con (.int 1))) .nil))) .nil)))) (.cons (.for_ (.one 4) (.rng1 (.blt .len (.cons (.var 2) .nil))) (.cons (.ifs (.cmp .Gt (.var 4) (.con (.int 0))) (.cons (.expr (.mth .append (.var 3) (.cons (.tup (.cons (.neg (.con (.int 1))) (.cons (.ite (.or (.cons (.cmp .Lt (.var 4) (.bin .Sub (.blt .len (.cons (.var 2) .nil)) (.con (.int 1)))) (.cons (.cmp .Is (.idx (.var 0) (.con (.int 3))) (.con .non)) .nil))) (.idx (.var 0) (.con (.int 2))) (.idx (.var 0) (.con (.int 3)))) .nil))) .nil))) .nil) .nil) (.cons (.expr (.mth .extend (.var 3) (.cons (.cal "_law_put" (.cons (.idx (.var 2) (.var 4)) (.cons (.var 1) .nil))) .nil))) .nil))) (.cons (.ret (.bin .Add (.var 3) (.lst (.cons (.tup (.cons (.neg (.con (.int 1))) (.cons (.idx (.var 0) (.con (.int 4))) .nil))) .nil)))) .nil))))))⟩
def f__law_great : FDef := ⟨"_law_great", 2, 5, .raw,
  (.cons (.ifs (.cmp .Eq (.idx (.var 0) (.con (.int 0))) (.con (.str [102, 105, 101, 108, 100]))) (.cons (.ret (.bin .Add (.bin .Add (.blt .len (.cons (.idx (.var 0) (.con (.int 2))) .nil)) (.idx (.var 1) (.idx (.var 0) (.con (.int 1))))) (.blt .len (.cons (.idx (.var 0) (.con (.int 3))) .nil)))) .nil) .nil) (.cons (.set (.one 2) (.comp [4] (.one 4) (.seq (.idx (.var 0) (.neg (.con (.int 1))))) .no (.cal "_law_great" (.cons (.var 4) (.cons (.var 1) .nil))))) (.cons (.ifs (.cmp .Eq (.idx (.var 0) (.con (.int 0))) (.con (.str [101, 105, 116, 104, 101, 114]))) (.cons (.ret (.blt .max1 (.cons (.var 2) .nil))) .nil) .nil) (.cons (.set (.one 3) (.bin .Add (.bin .Add (.blt .len (.cons (.idx (.var 0) (.con (.int 1))) .nil)) (.blt .sum (.cons (.var 2) .nil))) (.blt .len (.cons (.idx (.var 0) (.con (.int 4))) .nil)))) (.cons (.ifs (.cmp .Gt (.blt .len (.cons (.var 2) .nil)) (.con (.int 1))) (.cons (.set (.one 3) (.bin .Add (.bin .Add (.var 3) (.bin .Mult (.bin .Sub (.blt .len (.cons (.var 2) .nil)) (.con (.int 2))) (.blt .len (.cons (.idx (.var 0) (.con (.int 2))) .nil)))) (.blt .len (.cons (.ite (.cmp .Is (.idx (.var 0) (.con (.int 3))) (.con .non)) (.idx (.var 0) (.con (.int 2))) (.idx (.var 0) (.con (.int 3)))) .nil)))) .nil) .nil) (.cons (.ret (.var 3)) .nil))))))⟩
def f_best_of : FDef := ⟨"best_of", 3, 7, .raw,
  (.cons (.ifs (.cmp .Eq (.idx (.var 1) (.con (.int 0))) (.con (.str [102, 105, 101, 108, 100]))) (.cons (.ret (.tup (.cons (.bin .Add (.cal "texts_length" (.cons (.var 1) .nil)) (.ite (.var 2) (.idx (.idx (.idx (.var 0) (.con (.int 0))) (.idx (.var 1) (.con (.int 1)))) (.con (.int 2))) (.con (.int 1)))) (.cons (.lst (.cons (.idx (.var 1) (.con (.int 1))) .nil)) .nil)))) .nil) .nil) (.cons (.set (.one 3) (.comp [6] (.one 6) (.seq (.idx (.var 1) (.neg (.con (.int 1))))) .no (.cal "best_of" (.cons (.var 0) (.cons (.var 6) (.cons (.var 2) .nil)))))) (.cons (.ifs (.and (.cons (.cmp .Eq (.idx (.var 1) (.con (.int 0))) (.con (.str [114, 111, 119]))) (.cons (.var 2) .nil))) (.cons (.ret (.cal "long_row" (.cons (.var 1) (.cons (.var 3) .nil)))) .nil) .nil) (.cons (.set (.tup (.cons (.one 4) (.cons (.one 5) .nil))) (.ite (.var 2) (.blt .max1 (.cons (.var 3) .nil)) (.blt .min1 (.cons (.var 3) .nil)))) (.cons (.ret (.tup (.cons (.bin .Add (.cal "texts_length" (.cons (.var 1) .nil)) (.var 4)) (.cons (.var 5) .nil)))) .nil)))))⟩
def f__law_breaks : FDef := ⟨"_law_breaks", 3, 11, (.trim 9),
  (.cons (.ifs (.or (.cons (.nt (.isi (.var 2) "tuple")) (.cons (.cmp .NotEq (.blt .len (.cons (.var 2) .nil)) (.con (.int 2))) (.cons (.nt (.cal "_law_same" (.cons (.idx (.var 2) (.con (.int 0))) (.cons (.con (.str [98, 114, 111, 107, 101, 110])) .nil)))) (.cons (.nt (.isi (.idx (.var 2) (.con (.int 1))) "tuple")) .nil))))) (.cons (.ret (.con (.bl false))) .nil) .nil) (.cons (.par [4, 5] (.cons (.con (.str [])) (.cons (.live (.comp [7] (.one 7) (.seq (.idx (.var 0) (.con (.int 0)))) .no (.con .non))) .nil))) (.cons (.for_ (.one 3) (.seq (.idx (.var 2) (.con (.int 1)))) (.cons (.ifs (.or (.cons (.nt (.isi (.var 3) "tuple")) (.cons (.cmp .NotEq (.blt .len (.cons (.var 3) .nil)) (.con (.int 2))) (.cons (.nt (.isi (.idx (.var 3) (.con (.int 0))) "str")) (.cons (.nt (.isi (.idx (.var 3) (.con (.int 1))) "str")) .nil))))) (.cons (.ret (.con (.bl false))) .nil) .nil) (.cons (.set (.one 6) (.comp [8] (.one 8) (.rng1 (.blt .len (.cons (.var 5) .nil))) (.so (.cmp .Eq (.idx (.idx (.idx (.var 0) (.con (.int 0))) (.var 8)) (.con (.int 0))) (.idx (.var 3) (.con (.int 0))))) (.var 8))) (.cons (.ifs (.or (.cons (.cmp .Eq (.blt .len (.cons (.var 6) .nil)) (.con (.int 0))) (.cons (.cmp .LtE (.idx (.var 3) (.con (.int 0))) (.var 4)) (.cons (.nt (.chn .Lt .LtE (.con (.int 0)) (.blt .len (.cons (.idx (.var 3) (.con (.int 1))) .nil)) (.idx (.idx (.idx (.var 0) (.con (.int 0))) (.idx (.var 6) (.con (.int 0)))) (.con (.int 2))))) .nil)))) (.cons (.ret (.con (.bl false))) .nil) .nil) (.cons (.ifs (.cmp .Gt (.blt .len (.cons (.comp [9] (.one 9) (.seq (.idx (.var 3) (.con (.int 1)))) (.so (.cmp .NotIn (.var 9) (.cal "_law_kind" (.cons (.idx (.idx (.idx (.var 0) (.con (.int 0))) (.idx (.var 6) (.con (.int 0)))) (.con (.int 1))) .nil)))) (.var 9)) .nil)) (.con (.int 0))) (.cons (.ret (.con (.bl false))) .nil) .nil) (.cons (.set (.one 4) (.idx (.var 3) (.con (.int 0)))) (.cons (.put (.var 5) (.idx (.var 6) (.con (.int 0))) (.idx (.var 3) (.con (.int 1)))) .nil))))))) (.cons (.ifs (.cmp .Eq (.var 4) (.con (.str []))) (.cons (.ret (.con (.bl false))) .nil) .nil) (.cons (.ret (.cmp .Gt (.blt .sum (.cons (.comp [8, 10] (.tup (.cons (.one 8) (.cons (.one 10) .nil))) (.seq (.cal "_law_put" (.cons (.idx (.var 0) (.con (.int 1))) (.cons (.var 5) .nil)))) .no (.blt .len (.cons (.var 10) .nil))) .nil)) (.var 1))) .nil)))))⟩
def f_verdict_of : FDef := ⟨"verdict_of", 2, 3, .raw,
  (.cons (.set (.one 2) (.cal "breach_of" (.cons (.var 0) (.cons (.var 1) .nil)))) (.cons (.ret (.ite (.cmp .Is (.var 2) (.con .non)) (.tup (.cons (.glb "KEPT") .nil)) (.tup (.cons (.glb "BROKEN") (.cons (.var 2) .nil))))) .nil))⟩
def f_has_room : FDef := ⟨"has_room", 3, 4, .raw,
  (.cons (.set (.one 3) (.cal "most_at" (.cons (.var 0) (.cons (.var 1) (.cons (.var 2) .nil))))) (.cons (.ret (.and (.cons (.cmp .IsNot (.var 3) (.con .non)) (.cons (.cmp .Gt (.var 3) (.idx (.idx (.idx (.var 0) (.con (.int 0))) (.var 1)) (.con (.int 2)))) .nil)))) .nil))⟩
def f_field_names : FDef := ⟨"field_names", 1, 2, .raw,
  (.cons (.ret (.blt .tuple (.cons (.comp [1] (.one 1) (.seq (.idx (.var 0) (.con (.int 0)))) .no (.idx (.var 1) (.con (.int 0)))) .nil))) .nil)⟩
def f_most_at : FDef := ⟨"most_at", 3, 5, .raw,
  (.cons (.set (.one 3) (.comp [4] (.one 4) (.rng2 (.con (.int 1)) (.bin .Add (.glb "VALUE_MOST") (.con (.int 1)))) (.so (.cmp .LtE (.cal "longest" (.cons (.cal "with_length" (.cons (.var 0) (.cons (.var 1) (.cons (.var 4) .nil)))) .nil)) (.var 2))) (.var 4))) (.cons (.ret (.ite (.cmp .Gt (.blt .len (.cons (.var 3) .nil)) (.con (.int 0))) (.idx (.var 3) (.neg (.con (.int 1)))) (.con .non))) .nil))⟩
def f_field_number : FDef := ⟨"field_number", 2, 3, .raw,
  (.cons (.set (.one 2) (.cal "field_names" (.cons (.var 0) .nil))) (.cons (.ifs (.cmp .NotIn (.var 1) (.var 2)) (.cons (.rai "BadStep" (.cons (.con (.str [102, 105, 101, 108, 100])) .nil)) .nil) .nil) (.cons (.ret (.mth .index (.var 2) (.cons (.var 1) .nil))) .nil)))⟩
def f_with_most : FDef := ⟨"with_most", 3, 4, .raw,
  (.cons (.set (.one 3) (.cal "field_number" (.cons (.var 0) (.cons (.var 1) .nil)))) (.cons (.ifs (.nt (.chn .LtE .LtE (.con (.int 1)) (.var 2) (.glb "VALUE_MOST"))) (.cons (.rai "BadStep" (.cons (.con (.str [109, 111, 115, 116])) .nil)) .nil) .nil) (.cons (.ret (.cal "with_field" (.cons (.var 0) (.cons (.var 3) (.cons (.bin .Add (.slc (.idx (.idx (.var 0) (.con (.int 0))) (.var 3)) .no (.so (.con (.int 2)))) (.tup (.cons (.var 2) .nil))) .nil))))) .nil)))⟩
def f__law_given : FDef := ⟨"_law_given", 2, 3, .raw,
  (.cons (.ret (.cmp .Gt (.blt .len (.cons (.comp [2] (.one 2) (.seq (.cal "_law_fields" (.cons (.var 0) .nil))) (.so (.cmp .IsNot (.idx (.var 1) (.var 2)) (.con .non))) (.var 2)) .nil)) (.con (.int 0)))) .nil)⟩
def f_texts_length : FDef := ⟨"texts_length", 1, 1, .raw,
  (.cons (.ret (.bin .Add (.blt .len (.cons (.cal "ahead_text" (.cons (.var 0) .nil)) .nil)) (.blt .len (.cons (.cal "behind_text" (.cons (.var 0) .nil)) .nil)))) .nil)⟩
def f_long_row : FDef := ⟨"long_row", 2, 8, (.trim 9),
  (.cons (.set (.one 2) (.ite (.cmp .Is (.idx (.var 0) (.con (.int 3))) (.con .non)) (.idx (.var 0) (.con (.int 2))) (.idx (.var 0) (.con (.int 3))))) (.cons (.set (.one 3) (.ite (.cmp .Gt (.blt .len (.cons (.var 1) .nil)) (.con (.int 1))) (.bin .Add (.bin .Mult (.blt .len (.cons (.idx (.var 0) (.con (.int 2))) .nil)) (.bin .Sub (.blt .len (.cons (.var 1) .nil)) (.con (.int 2)))) (.blt .len (.cons (.var 2) .nil))) (.con (.int 0)))) (.cons (.set (.one 4) (.live (.lst .nil))) (.cons (.for_ (.tup (.cons (.one 5) (.cons (.one 6) .nil))) (.seq (.var 1)) (.cons (.expr (.mth .extend (.var 4) (.cons (.var 6) .nil))) .nil)) (.cons (.ret (.tup (.cons (.bin .Add (.bin .Add (.cal "texts_length" (.cons (.var 0) .nil)) (.var 3)) (.blt .sum (.cons (.comp [7, 5] (.tup (.cons (.one 7) (.cons (.one 5) .nil))) (.seq (.var 1)) .no (.var 7)) .nil))) (.cons (.var 4) .nil)))) .nil)))))⟩
def f__law_kind : FDef := ⟨"_law_kind", 1, 2, .raw,
  (.cons (.set (.one 1) (.con (.str [65, 66, 67, 68, 69, 70, 71, 72, 73, 74, 75, 76, 77, 78, 79, 80, 81, 82, 83, 84, 85, 86, 87, 88, 89, 90, 97, 98, 99, 100, 101, 102, 103, 104, 105, 106, 107, 108, 109, 110, 111, 112, 113, 114, 115, 116, 117, 118, 119, 120, 121, 122]))) (.cons (.ret (.idx (.dsp [(.str [108, 101, 116, 116, 101, 114, 115]), (.str [100, 105, 103, 105, 116, 115]), (.str [115, 105, 103, 110, 115])] (.cons (.var 1) (.cons (.con (.str [48, 49, 50, 51, 52, 53, 54, 55, 56, 57])) (.cons (.bin .Add (.con (.str [48, 49, 50, 51, 52, 53, 54, 55, 56, 57])) (.var 1)) .nil)))) (.var 0))) .nil))⟩
def f_breach_of : FDef := ⟨"breach_of", 2, 3, .raw,
  (.cons (.ifs (.cmp .Eq (.idx (.var 1) (.con (.int 0))) (.con (.str [109, 111, 115, 116]))) (.cons (.ret (.ite (.cmp .Gt (.cal "longest" (.cons (.var 0) .nil)) (.idx (.var 1) (.con (.int 1)))) (.cal "longest_record" (.cons (.var 0) .nil)) (.con .non))) .nil) .nil) (.cons .any (.cons .any (.cons .any .nil))))⟩
def f_with_length : FDef := ⟨"with_length", 3, 3, .raw,
  (.cons (.ret (.cal "with_field" (.cons (.var 0) (.cons (.var 1) (.cons (.bin .Add (.slc (.idx (.idx (.var 0) (.con (.int 0))) (.var 1)) .no (.so (.con (.int 2)))) (.tup (.cons (.var 2) .nil))) .nil))))) .nil)⟩
def f_with_field : FDef := ⟨"with_field", 3, 3, .raw,
  (.cons (.ret (.bin .Add (.tup (.cons (.bin .Add (.bin .Add (.slc (.idx (.var 0) (.con (.int 0))) .no (.so (.var 1))) (.tup (.cons (.var 2) .nil))) (.slc (.idx (.var 0) (.con (.int 0))) (.so (.bin .Add (.var 1) (.con (.int 1)))) .no)) .nil)) (.slc (.var 0) (.so (.con (.int 1))) .no))) .nil)⟩
def f__law_fields : FDef := ⟨"_law_fields", 1, 3, (.trim 9),
  (.cons (.ifs (.cmp .Eq (.idx (.var 0) (.con (.int 0))) (.con (.str [102, 105, 101, 108, 100]))) (.cons (.ret (.lst (.cons (.idx (.var 0) (.con (.int 1))) .nil))) .nil) .nil) (.cons (.set (.one 1) (.live (.lst .nil))) (.cons (.for_ (.one 2) (.seq (.idx (.var 0) (.bin .Sub (.blt .len (.cons (.var 0) .nil)) (.con (.int 1))))) (.cons (.expr (.mth .extend (.var 1) (.cons (.cal "_law_fields" (.cons (.var 2) .nil)) .nil))) .nil)) (.cons (.ret (.var 1)) .nil))))⟩
def f_ahead_text : FDef := ⟨"ahead_text", 1, 1, .raw,
  (.cons (.ifs (.cmp .Eq (.idx (.var 0) (.con (.int 0))) (.con (.str [101, 105, 116, 104, 101, 114]))) (.cons (.ret (.con (.str []))) .nil) .nil) (.cons (.ret (.ite (.cmp .Eq (.idx (.var 0) (.con (.int 0))) (.con (.str [102, 105, 101, 108, 100]))) (.idx (.var 0) (.con (.int 2))) (.idx (.var 0) (.con (.int 1))))) .nil))⟩
def f_behind_text : FDef := ⟨"behind_text", 1, 1, .raw,
  (.cons (.ifs (.cmp .Eq (.idx (.var 0) (.con (.int 0))) (.con (.str [101, 105, 116, 104, 101, 114]))) (.cons (.ret (.con (.str []))) .nil) .nil) (.cons (.ret (.ite (.cmp .Eq (.idx (.var 0) (.con (.int 0))) (.con (.str [102, 105, 101, 108, 100]))) (.idx (.var 0) (.con (.int 3))) (.idx (.var 0) (.con (.int 4))))) .nil))⟩
def f_longest_record : FDef := ⟨"longest_record", 1, 1, .raw,
  (.cons (.ret (.cal "record_by" (.cons (.var 0) (.cons (.idx (.cal "best_of" (.cons (.var 0) (.cons (.idx (.var 0) (.con (.int 1))) (.cons (.con (.bl true)) .nil)))) (.con (.int 1))) (.cons (.con (.bl true)) .nil))))) .nil)⟩
def f_record_by : FDef := ⟨"record_by", 3, 8, (.trim 9),
  (.cons (.set (.one 3) (.live (.lst .nil))) (.cons (.for_ (.one 4) (.seq (.var 1)) (.cons (.set (.tup (.cons (.one 5) (.cons (.one 6) (.cons (.one 7) .nil)))) (.idx (.idx (.var 0) (.con (.int 0))) (.var 4))) (.cons (.expr (.mth .append (.var 3) (.cons (.tup (.cons (.var 5) (.cons (.bin .Mult (.gix "VALUE_SIGN" (.var 6)) (.ite (.var 2) (.var 7) (.con (.int 1)))) .nil))) .nil))) .nil))) (.cons (.ret (.blt .tuple (.cons (.blt .sorted (.cons (.var 3) .nil)) .nil))) .nil)))⟩
def tab : List FDef := [f_law, f__law_jar, f__law_draw, f__law_template, f__law_text, f__law_moved, f__law_rows, f__law_longest, f__law_same, f_longest, f__law_asked, f__law_most, f_room_for, f_most_for, f__law_refused, f__law_changed, f__law_part, f__law_put, f__law_great, f_best_of, f__law_breaks, f_verdict_of, f_has_room, f_field_names, f_most_at, f_field_number, f_with_most, f__law_given, f_texts_length, f_long_row, f__law_kind, f_breach_of, f_with_length, f_with_field, f__law_fields, f_ahead_text, f_behind_text, f_longest_record, f_record_by]
def fns : List String := ["law", "_law_jar", "_law_draw", "_law_template", "_law_text", "_law_moved", "_law_rows", "_law_longest", "_law_same", "longest", "_law_asked", "_law_most", "room_for", "most_for", "_law_refused", "_law_changed", "_law_part", "_law_put", "_law_great", "best_of", "_law_breaks", "verdict_of", "has_room", "field_names", "most_at", "field_number", "with_most", "_law_given", "texts_length", "long_row", "_law_kind", "breach_of", "with_length", "with_field", "_law_fields", "ahead_text", "behind_text", "longest_record", "record_by"]
noncomputable def G : Glo where
  fns := fns
  glb := fun x => if x = "VALUE_MOST" then some (.int 40) else if x = "KEPT" then some (.str [107, 101, 112, 116]) else if x = "BROKEN" then some (.str [98, 114, 111, 107, 101, 110]) else none
  gdc := fun x => if x = "VALUE_SIGN" then some ([.str [108, 101, 116, 116, 101, 114, 115], .str [100, 105, 103, 105, 116, 115], .str [115, 105, 103, 110, 115]], [.str [97], .str [48], .str [97]]) else none
  kws := fun x ks => if x = "most_for" ∧ ks = ["number", "name", "template"] then some [2, 1, 0] else none
  fld := fun c => if c = "BadStep" then ["word"] else []
  sub := fun a b => a == b
  fuel := 1000000
end K87
end Ev
/-! K87a: the compact text of law k87's defs, and the look at each. -/
namespace Ev
namespace K87
open PySem PySem.Spec PyProof.Rows L2
abbrev prog : Program := PySem.Challenge.pw_threegiven_k87_whole_room_greatest_lengt
def top (i : Nat) : Stmt := prog.main.body.getD i (.Pass ⟨0, 0, 0, 0⟩)
def N_law : List Str := ["script", "jar", "wide", "many", "template", "rows", "mosts", "great", "k", "size", "name", "wrong", "told", "last", "other", "fields", "at", "number", "due", "field", "most"]

def N__law_jar : List Str := ["script", "cells", "total", "cell"]

def N__law_draw : List Str := ["jar", "many", "mixed", "turn", "cells"]

def N__law_template : List Str := ["jar", "many", "deep", "pool", "fields", "k", "start", "step", "kind"]

def N__law_text : List Str := ["jar"]

def N__law_moved : List Str := ["part", "more", "one"]

def N__law_rows : List Str := ["template", "k", "some", "told", "many", "sets", "put", "one", "text"]

def N__law_longest : List Str := ["template", "rows", "mosts", "size", "numbers", "k"]

def N__law_same : List Str := ["told", "due", "stack", "count", "left", "right", "k"]

def N_longest : List Str := ["template"]

def N__law_asked : List Str := ["template", "rows", "at", "number", "kept", "more", "due", "name"]

def N__law_most : List Str := ["template", "rows", "at", "number", "mosts", "told", "beyond", "most", "field"]

def N_room_for : List Str := ["template", "number", "k", "name"]

def N_most_for : List Str := ["template", "name", "number"]

def N__law_refused : List Str := ["kind", "template", "name", "number", "error"]

def N__law_changed : List Str := ["template", "at", "most", "name", "kind", "old"]

def N__law_part : List Str := ["jar", "first", "behind", "deep", "cuts", "k", "parts", "ahead", "end"]

def N__law_put : List Str := ["part", "values", "inner", "told", "at", "one"]

def N__law_great : List Str := ["part", "mosts", "inner", "told", "one"]

def N_best_of : List Str := ["template", "part", "is_long", "told", "many", "fields", "one"]

def N__law_breaks : List Str := ["template", "number", "told", "pair", "last", "values", "found", "field", "k", "sign", "text"]

def N_verdict_of : List Str := ["template", "claim", "record"]

def N_has_room : List Str := ["template", "k", "number", "most"]

def N_field_names : List Str := ["template", "field"]

def N_most_at : List Str := ["template", "k", "number", "told", "most"]

def N_field_number : List Str := ["template", "name", "names"]

def N_with_most : List Str := ["template", "name", "most", "k"]

def N__law_given : List Str := ["part", "values", "k"]

def N_texts_length : List Str := ["part"]

def N_long_row : List Str := ["part", "told", "last", "seps", "names", "_", "more", "many"]

def N__law_kind : List Str := ["kind", "letters"]

def N_breach_of : List Str := ["template", "claim", "record"]

def N_with_length : List Str := ["template", "k", "most"]

def N_with_field : List Str := ["template", "k", "field"]

def N__law_fields : List Str := ["part", "told", "one"]

def N_ahead_text : List Str := ["part"]

def N_behind_text : List Str := ["part"]

def N_longest_record : List Str := ["template"]

def N_record_by : List Str := ["template", "fields", "is_long", "pairs", "k", "name", "kind", "most"]



theorem c_law : chkB G ⟨N_law, defScope (top 72), defScope (top 72)⟩ f_law.body (defBody (top 72)) = true := by decide +kernel
theorem c__law_jar : chkB G ⟨N__law_jar, defScope (top 58), defScope (top 58)⟩ f__law_jar.body (defBody (top 58)) = true := by decide +kernel
theorem c__law_draw : chkB G ⟨N__law_draw, defScope (top 59), defScope (top 59)⟩ f__law_draw.body (defBody (top 59)) = true := by decide +kernel
theorem c__law_template : chkB G ⟨N__law_template, defScope (top 62), defScope (top 62)⟩ f__law_template.body (defBody (top 62)) = true := by decide +kernel
theorem c__law_text : chkB G ⟨N__law_text, defScope (top 60), defScope (top 60)⟩ f__law_text.body (defBody (top 60)) = true := by decide +kernel
theorem c__law_moved : chkB G ⟨N__law_moved, defScope (top 71), defScope (top 71)⟩ f__law_moved.body (defBody (top 71)) = true := by decide +kernel
theorem c__law_rows : chkB G ⟨N__law_rows, defScope (top 63), defScope (top 63)⟩ f__law_rows.body (defBody (top 63)) = true := by decide +kernel
theorem c__law_longest : chkB G ⟨N__law_longest, defScope (top 65), defScope (top 65)⟩ f__law_longest.body (defBody (top 65)) = true := by decide +kernel
theorem c__law_same : chkB G ⟨N__law_same, defScope (top 57), defScope (top 57)⟩ f__law_same.body (defBody (top 57)) = true := by decide +kernel
theorem c_longest : chkB G ⟨N_longest, defScope (top 17), defScope (top 17)⟩ f_longest.body (defBody (top 17)) = true := by decide +kernel
theorem c__law_asked : chkB G ⟨N__law_asked, defScope (top 70), defScope (top 70)⟩ f__law_asked.body (defBody (top 70)) = true := by decide +kernel
theorem c__law_most : chkB G ⟨N__law_most, defScope (top 66), defScope (top 66)⟩ f__law_most.body (defBody (top 66)) = true := by decide +kernel
theorem c_room_for : chkB G ⟨N_room_for, defScope (top 34), defScope (top 34)⟩ f_room_for.body (defBody (top 34)) = true := by decide +kernel
theorem c_most_for : chkB G ⟨N_most_for, defScope (top 32), defScope (top 32)⟩ f_most_for.body (defBody (top 32)) = true := by decide +kernel
theorem c__law_refused : chkB G ⟨N__law_refused, defScope (top 69), defScope (top 69)⟩ f__law_refused.body (defBody (top 69)) = true := by decide +kernel
theorem c__law_changed : chkB G ⟨N__law_changed, defScope (top 67), defScope (top 67)⟩ f__law_changed.body (defBody (top 67)) = true := by decide +kernel
theorem c__law_part : chkB G ⟨N__law_part, defScope (top 61), defScope (top 61)⟩ f__law_part.body (defBody (top 61)) = true := by decide +kernel
theorem c__law_put : chkB G ⟨N__law_put, defScope (top 55), defScope (top 55)⟩ f__law_put.body (defBody (top 55)) = true := by decide +kernel
theorem c__law_great : chkB G ⟨N__law_great, defScope (top 64), defScope (top 64)⟩ f__law_great.body (defBody (top 64)) = true := by decide +kernel
theorem c_best_of : chkB G ⟨N_best_of, defScope (top 16), defScope (top 16)⟩ f_best_of.body (defBody (top 16)) = true := by decide +kernel
theorem c__law_breaks : chkB G ⟨N__law_breaks, defScope (top 68), defScope (top 68)⟩ f__law_breaks.body (defBody (top 68)) = true := by decide +kernel
theorem c_verdict_of : chkB G ⟨N_verdict_of, defScope (top 51), defScope (top 51)⟩ f_verdict_of.body (defBody (top 51)) = true := by decide +kernel
theorem c_has_room : chkB G ⟨N_has_room, defScope (top 33), defScope (top 33)⟩ f_has_room.body (defBody (top 33)) = true := by decide +kernel
theorem c_field_names : chkB G ⟨N_field_names, defScope (top 24), defScope (top 24)⟩ f_field_names.body (defBody (top 24)) = true := by decide +kernel
theorem c_most_at : chkB G ⟨N_most_at, defScope (top 31), defScope (top 31)⟩ f_most_at.body (defBody (top 31)) = true := by decide +kernel
theorem c_field_number : chkB G ⟨N_field_number, defScope (top 25), defScope (top 25)⟩ f_field_number.body (defBody (top 25)) = true := by decide +kernel
theorem c_with_most : chkB G ⟨N_with_most, defScope (top 28), defScope (top 28)⟩ f_with_most.body (defBody (top 28)) = true := by decide +kernel
theorem c__law_given : chkB G ⟨N__law_given, defScope (top 54), defScope (top 54)⟩ f__law_given.body (defBody (top 54)) = true := by decide +kernel
theorem c_texts_length : chkB G ⟨N_texts_length, defScope (top 14), defScope (top 14)⟩ f_texts_length.body (defBody (top 14)) = true := by decide +kernel
theorem c_long_row : chkB G ⟨N_long_row, defScope (top 15), defScope (top 15)⟩ f_long_row.body (defBody (top 15)) = true := by decide +kernel
theorem c__law_kind : chkB G ⟨N__law_kind, defScope (top 56), defScope (top 56)⟩ f__law_kind.body (defBody (top 56)) = true := by decide +kernel
theorem c_breach_of : chkB G ⟨N_breach_of, defScope (top 50), defScope (top 50)⟩ f_breach_of.body (defBody (top 50)) = true := by decide +kernel
theorem c_with_length : chkB G ⟨N_with_length, defScope (top 30), defScope (top 30)⟩ f_with_length.body (defBody (top 30)) = true := by decide +kernel
theorem c_with_field : chkB G ⟨N_with_field, defScope (top 27), defScope (top 27)⟩ f_with_field.body (defBody (top 27)) = true := by decide +kernel
theorem c__law_fields : chkB G ⟨N__law_fields, defScope (top 53), defScope (top 53)⟩ f__law_fields.body (defBody (top 53)) = true := by decide +kernel
theorem c_ahead_text : chkB G ⟨N_ahead_text, defScope (top 10), defScope (top 10)⟩ f_ahead_text.body (defBody (top 10)) = true := by decide +kernel
theorem c_behind_text : chkB G ⟨N_behind_text, defScope (top 11), defScope (top 11)⟩ f_behind_text.body (defBody (top 11)) = true := by decide +kernel
theorem c_longest_record : chkB G ⟨N_longest_record, defScope (top 20), defScope (top 20)⟩ f_longest_record.body (defBody (top 20)) = true := by decide +kernel
theorem c_record_by : chkB G ⟨N_record_by, defScope (top 19), defScope (top 19)⟩ f_record_by.body (defBody (top 19)) = true := by decide +kernel
end K87
end Ev
set_option maxHeartbeats 0
/-! K87b: each def's scope and binding. -/
namespace Ev
namespace K87
open PySem PySem.Spec PyProof.Rows L2
def d_law : He.DefD := ⟨("law", none), "law", "law", defArgs (top 72), defBody (top 72), defScope (top 72), [], []⟩
def p_law : List Str := ["script"]
theorem s_law : FnScope N_law p_law (defScope (top 72)) := ⟨by rfl, by rfl, by rfl, by decide +kernel, by rfl, by decide +kernel, by decide +kernel⟩
theorem b_law {K : PySem.W.Frag} {f : Addr} {fd : FuncData} (F : FunD K "law" "law" (defArgs (top 72)) (defBody (top 72)) (defScope (top 72)) [] [] f fd) : Binds K fd p_law [] := F.bindsN fun _ _ _ _ _ _ us hl => match us, hl with | [_], _ => rfl
def d__law_jar : He.DefD := ⟨("_law_jar", none), "_law_jar", "_law_jar", defArgs (top 58), defBody (top 58), defScope (top 58), [], []⟩
def p__law_jar : List Str := ["script"]
theorem s__law_jar : FnScope N__law_jar p__law_jar (defScope (top 58)) := ⟨by rfl, by rfl, by rfl, by decide +kernel, by rfl, by decide +kernel, by decide +kernel⟩
theorem b__law_jar {K : PySem.W.Frag} {f : Addr} {fd : FuncData} (F : FunD K "_law_jar" "_law_jar" (defArgs (top 58)) (defBody (top 58)) (defScope (top 58)) [] [] f fd) : Binds K fd p__law_jar [] := F.bindsN fun _ _ _ _ _ _ us hl => match us, hl with | [_], _ => rfl
def d__law_draw : He.DefD := ⟨("_law_draw", none), "_law_draw", "_law_draw", defArgs (top 59), defBody (top 59), defScope (top 59), [], []⟩
def p__law_draw : List Str := ["jar", "many"]
theorem s__law_draw : FnScope N__law_draw p__law_draw (defScope (top 59)) := ⟨by rfl, by rfl, by rfl, by decide +kernel, by rfl, by decide +kernel, by decide +kernel⟩
theorem b__law_draw {K : PySem.W.Frag} {f : Addr} {fd : FuncData} (F : FunD K "_law_draw" "_law_draw" (defArgs (top 59)) (defBody (top 59)) (defScope (top 59)) [] [] f fd) : Binds K fd p__law_draw [] := F.bindsN fun _ _ _ _ _ _ us hl => match us, hl with | [_, _], _ => rfl
def d__law_template : He.DefD := ⟨("_law_template", none), "_law_template", "_law_template", defArgs (top 62), defBody (top 62), defScope (top 62), [], []⟩
def p__law_template : List Str := ["jar", "many", "deep"]
theorem s__law_template : FnScope N__law_template p__law_template (defScope (top 62)) := ⟨by rfl, by rfl, by rfl, by decide +kernel, by rfl, by decide +kernel, by decide +kernel⟩
theorem b__law_template {K : PySem.W.Frag} {f : Addr} {fd : FuncData} (F : FunD K "_law_template" "_law_template" (defArgs (top 62)) (defBody (top 62)) (defScope (top 62)) [] [] f fd) : Binds K fd p__law_template [] := F.bindsN fun _ _ _ _ _ _ us hl => match us, hl with | [_, _, _], _ => rfl
def d__law_text : He.DefD := ⟨("_law_text", none), "_law_text", "_law_text", defArgs (top 60), defBody (top 60), defScope (top 60), [], []⟩
def p__law_text : List Str := ["jar"]
theorem s__law_text : FnScope N__law_text p__law_text (defScope (top 60)) := ⟨by rfl, by rfl, by rfl, by decide +kernel, by rfl, by decide +kernel, by decide +kernel⟩
theorem b__law_text {K : PySem.W.Frag} {f : Addr} {fd : FuncData} (F : FunD K "_law_text" "_law_text" (defArgs (top 60)) (defBody (top 60)) (defScope (top 60)) [] [] f fd) : Binds K fd p__law_text [] := F.bindsN fun _ _ _ _ _ _ us hl => match us, hl with | [_], _ => rfl
def d__law_moved : He.DefD := ⟨("_law_moved", none), "_law_moved", "_law_moved", defArgs (top 71), defBody (top 71), defScope (top 71), [], []⟩
def p__law_moved : List Str := ["part", "more"]
theorem s__law_moved : FnScope N__law_moved p__law_moved (defScope (top 71)) := ⟨by rfl, by rfl, by rfl, by decide +kernel, by rfl, by decide +kernel, by decide +kernel⟩
theorem b__law_moved {K : PySem.W.Frag} {f : Addr} {fd : FuncData} (F : FunD K "_law_moved" "_law_moved" (defArgs (top 71)) (defBody (top 71)) (defScope (top 71)) [] [] f fd) : Binds K fd p__law_moved [] := F.bindsN fun _ _ _ _ _ _ us hl => match us, hl with | [_, _], _ => rfl
def d__law_rows : He.DefD := ⟨("_law_rows", none), "_law_rows", "_law_rows", defArgs (top 63), defBody (top 63), defScope (top 63), [], []⟩
def p__law_rows : List Str := ["template"]
theorem s__law_rows : FnScope N__law_rows p__law_rows (defScope (top 63)) := ⟨by rfl, by rfl, by rfl, by decide +kernel, by rfl, by decide +kernel, by decide +kernel⟩
theorem b__law_rows {K : PySem.W.Frag} {f : Addr} {fd : FuncData} (F : FunD K "_law_rows" "_law_rows" (defArgs (top 63)) (defBody (top 63)) (defScope (top 63)) [] [] f fd) : Binds K fd p__law_rows [] := F.bindsN fun _ _ _ _ _ _ us hl => match us, hl with | [_], _ => rfl
def d__law_longest : He.DefD := ⟨("_law_longest", none), "_law_longest", "_law_longest", defArgs (top 65), defBody (top 65), defScope (top 65), [], []⟩
def p__law_longest : List Str := ["template", "rows", "mosts"]
theorem s__law_longest : FnScope N__law_longest p__law_longest (defScope (top 65)) := ⟨by rfl, by rfl, by rfl, by decide +kernel, by rfl, by decide +kernel, by decide +kernel⟩
theorem b__law_longest {K : PySem.W.Frag} {f : Addr} {fd : FuncData} (F : FunD K "_law_longest" "_law_longest" (defArgs (top 65)) (defBody (top 65)) (defScope (top 65)) [] [] f fd) : Binds K fd p__law_longest [] := F.bindsN fun _ _ _ _ _ _ us hl => match us, hl with | [_, _, _], _ => rfl
def d__law_same : He.DefD := ⟨("_law_same", none), "_law_same", "_law_same", defArgs (top 57), defBody (top 57), defScope (top 57), [], []⟩
def p__law_same : List Str := ["told", "due"]
theorem s__law_same : FnScope N__law_same p__law_same (defScope (top 57)) := ⟨by rfl, by rfl, by rfl, by decide +kernel, by rfl, by decide +kernel, by decide +kernel⟩
theorem b__law_same {K : PySem.W.Frag} {f : Addr} {fd : FuncData} (F : FunD K "_law_same" "_law_same" (defArgs (top 57)) (defBody (top 57)) (defScope (top 57)) [] [] f fd) : Binds K fd p__law_same [] := F.bindsN fun _ _ _ _ _ _ us hl => match us, hl with | [_, _], _ => rfl
def d_longest : He.DefD := ⟨("longest", none), "longest", "longest", defArgs (top 17), defBody (top 17), defScope (top 17), [], []⟩
def p_longest : List Str := ["template"]
theorem s_longest : FnScope N_longest p_longest (defScope (top 17)) := ⟨by rfl, by rfl, by rfl, by decide +kernel, by rfl, by decide +kernel, by decide +kernel⟩
theorem b_longest {K : PySem.W.Frag} {f : Addr} {fd : FuncData} (F : FunD K "longest" "longest" (defArgs (top 17)) (defBody (top 17)) (defScope (top 17)) [] [] f fd) : Binds K fd p_longest [] := F.bindsN fun _ _ _ _ _ _ us hl => match us, hl with | [_], _ => rfl
def d__law_asked : He.DefD := ⟨("_law_asked", none), "_law_asked", "_law_asked", defArgs (top 70), defBody (top 70), defScope (top 70), [], []⟩
def p__law_asked : List Str := ["template", "rows", "at", "number"]
theorem s__law_asked : FnScope N__law_asked p__law_asked (defScope (top 70)) := ⟨by rfl, by rfl, by rfl, by decide +kernel, by rfl, by decide +kernel, by decide +kernel⟩
theorem b__law_asked {K : PySem.W.Frag} {f : Addr} {fd : FuncData} (F : FunD K "_law_asked" "_law_asked" (defArgs (top 70)) (defBody (top 70)) (defScope (top 70)) [] [] f fd) : Binds K fd p__law_asked [] := F.bindsN fun _ _ _ _ _ _ us hl => match us, hl with | [_, _, _, _], _ => rfl
def d__law_most : He.DefD := ⟨("_law_most", none), "_law_most", "_law_most", defArgs (top 66), defBody (top 66), defScope (top 66), [], []⟩
def p__law_most : List Str := ["template", "rows", "at", "number"]
theorem s__law_most : FnScope N__law_most p__law_most (defScope (top 66)) := ⟨by rfl, by rfl, by rfl, by decide +kernel, by rfl, by decide +kernel, by decide +kernel⟩
theorem b__law_most {K : PySem.W.Frag} {f : Addr} {fd : FuncData} (F : FunD K "_law_most" "_law_most" (defArgs (top 66)) (defBody (top 66)) (defScope (top 66)) [] [] f fd) : Binds K fd p__law_most [] := F.bindsN fun _ _ _ _ _ _ us hl => match us, hl with | [_, _, _, _], _ => rfl
def d_room_for : He.DefD := ⟨("room_for", none), "room_for", "room_for", defArgs (top 34), defBody (top 34), defScope (top 34), [], []⟩
def p_room_for : List Str := ["template", "number"]
theorem s_room_for : FnScope N_room_for p_room_for (defScope (top 34)) := ⟨by rfl, by rfl, by rfl, by decide +kernel, by rfl, by decide +kernel, by decide +kernel⟩
theorem b_room_for {K : PySem.W.Frag} {f : Addr} {fd : FuncData} (F : FunD K "room_for" "room_for" (defArgs (top 34)) (defBody (top 34)) (defScope (top 34)) [] [] f fd) : Binds K fd p_room_for [] := F.bindsN fun _ _ _ _ _ _ us hl => match us, hl with | [_, _], _ => rfl
def d_most_for : He.DefD := ⟨("most_for", none), "most_for", "most_for", defArgs (top 32), defBody (top 32), defScope (top 32), [], []⟩
def p_most_for : List Str := ["template", "name", "number"]
theorem s_most_for : FnScope N_most_for p_most_for (defScope (top 32)) := ⟨by rfl, by rfl, by rfl, by decide +kernel, by rfl, by decide +kernel, by decide +kernel⟩
theorem b_most_for {K : PySem.W.Frag} {f : Addr} {fd : FuncData} (F : FunD K "most_for" "most_for" (defArgs (top 32)) (defBody (top 32)) (defScope (top 32)) [] [] f fd) : Binds K fd p_most_for [] := F.bindsN fun _ _ _ _ _ _ us hl => match us, hl with | [_, _, _], _ => rfl
def d__law_refused : He.DefD := ⟨("_law_refused", none), "_law_refused", "_law_refused", defArgs (top 69), defBody (top 69), defScope (top 69), [], []⟩
def p__law_refused : List Str := ["kind", "template", "name", "number"]
theorem s__law_refused : FnScope N__law_refused p__law_refused (defScope (top 69)) := ⟨by rfl, by rfl, by rfl, by decide +kernel, by rfl, by decide +kernel, by decide +kernel⟩
theorem b__law_refused {K : PySem.W.Frag} {f : Addr} {fd : FuncData} (F : FunD K "_law_refused" "_law_refused" (defArgs (top 69)) (defBody (top 69)) (defScope (top 69)) [] [] f fd) : Binds K fd p__law_refused [] := F.bindsN fun _ _ _ _ _ _ us hl => match us, hl with | [_, _, _, _], _ => rfl
def d__law_changed : He.DefD := ⟨("_law_changed", none), "_law_changed", "_law_changed", defArgs (top 67), defBody (top 67), defScope (top 67), [], []⟩
def p__law_changed : List Str := ["template", "at", "most"]
theorem s__law_changed : FnScope N__law_changed p__law_changed (defScope (top 67)) := ⟨by rfl, by rfl, by rfl, by decide +kernel, by rfl, by decide +kernel, by decide +kernel⟩
theorem b__law_changed {K : PySem.W.Frag} {f : Addr} {fd : FuncData} (F : FunD K "_law_changed" "_law_changed" (defArgs (top 67)) (defBody (top 67)) (defScope (top 67)) [] [] f fd) : Binds K fd p__law_changed [] := F.bindsN fun _ _ _ _ _ _ us hl => match us, hl with | [_, _, _], _ => rfl
def d__law_part : He.DefD := ⟨("_law_part", none), "_law_part", "_law_part", defArgs (top 61), defBody (top 61), defScope (top 61), [], []⟩
def p__law_part : List Str := ["jar", "first", "behind", "deep"]
theorem s__law_part : FnScope N__law_part p__law_part (defScope (top 61)) := ⟨by rfl, by rfl, by rfl, by decide +kernel, by rfl, by decide +kernel, by decide +kernel⟩
theorem b__law_part {K : PySem.W.Frag} {f : Addr} {fd : FuncData} (F : FunD K "_law_part" "_law_part" (defArgs (top 61)) (defBody (top 61)) (defScope (top 61)) [] [] f fd) : Binds K fd p__law_part [] := F.bindsN fun _ _ _ _ _ _ us hl => match us, hl with | [_, _, _, _], _ => rfl
def d__law_put : He.DefD := ⟨("_law_put", none), "_law_put", "_law_put", defArgs (top 55), defBody (top 55), defScope (top 55), [], []⟩
def p__law_put : List Str := ["part", "values"]
theorem s__law_put : FnScope N__law_put p__law_put (defScope (top 55)) := ⟨by rfl, by rfl, by rfl, by decide +kernel, by rfl, by decide +kernel, by decide +kernel⟩
theorem b__law_put {K : PySem.W.Frag} {f : Addr} {fd : FuncData} (F : FunD K "_law_put" "_law_put" (defArgs (top 55)) (defBody (top 55)) (defScope (top 55)) [] [] f fd) : Binds K fd p__law_put [] := F.bindsN fun _ _ _ _ _ _ us hl => match us, hl with | [_, _], _ => rfl
def d__law_great : He.DefD := ⟨("_law_great", none), "_law_great", "_law_great", defArgs (top 64), defBody (top 64), defScope (top 64), [], []⟩
def p__law_great : List Str := ["part", "mosts"]
theorem s__law_great : FnScope N__law_great p__law_great (defScope (top 64)) := ⟨by rfl, by rfl, by rfl, by decide +kernel, by rfl, by decide +kernel, by decide +kernel⟩
theorem b__law_great {K : PySem.W.Frag} {f : Addr} {fd : FuncData} (F : FunD K "_law_great" "_law_great" (defArgs (top 64)) (defBody (top 64)) (defScope (top 64)) [] [] f fd) : Binds K fd p__law_great [] := F.bindsN fun _ _ _ _ _ _ us hl => match us, hl with | [_, _], _ => rfl
def d_best_of : He.DefD := ⟨("best_of", none), "best_of", "best_of", defArgs (top 16), defBody (top 16), defScope (top 16), [], []⟩
def p_best_of : List Str := ["template", "part", "is_long"]
theorem s_best_of : FnScope N_best_of p_best_of (defScope (top 16)) := ⟨by rfl, by rfl, by rfl, by decide +kernel, by rfl, by decide +kernel, by decide +kernel⟩
theorem b_best_of {K : PySem.W.Frag} {f : Addr} {fd : FuncData} (F : FunD K "best_of" "best_of" (defArgs (top 16)) (defBody (top 16)) (defScope (top 16)) [] [] f fd) : Binds K fd p_best_of [] := F.bindsN fun _ _ _ _ _ _ us hl => match us, hl with | [_, _, _], _ => rfl
def d__law_breaks : He.DefD := ⟨("_law_breaks", none), "_law_breaks", "_law_breaks", defArgs (top 68), defBody (top 68), defScope (top 68), [], []⟩
def p__law_breaks : List Str := ["template", "number", "told"]
theorem s__law_breaks : FnScope N__law_breaks p__law_breaks (defScope (top 68)) := ⟨by rfl, by rfl, by rfl, by decide +kernel, by rfl, by decide +kernel, by decide +kernel⟩
theorem b__law_breaks {K : PySem.W.Frag} {f : Addr} {fd : FuncData} (F : FunD K "_law_breaks" "_law_breaks" (defArgs (top 68)) (defBody (top 68)) (defScope (top 68)) [] [] f fd) : Binds K fd p__law_breaks [] := F.bindsN fun _ _ _ _ _ _ us hl => match us, hl with | [_, _, _], _ => rfl
def d_verdict_of : He.DefD := ⟨("verdict_of", none), "verdict_of", "verdict_of", defArgs (top 51), defBody (top 51), defScope (top 51), [], []⟩
def p_verdict_of : List Str := ["template", "claim"]
theorem s_verdict_of : FnScope N_verdict_of p_verdict_of (defScope (top 51)) := ⟨by rfl, by rfl, by rfl, by decide +kernel, by rfl, by decide +kernel, by decide +kernel⟩
theorem b_verdict_of {K : PySem.W.Frag} {f : Addr} {fd : FuncData} (F : FunD K "verdict_of" "verdict_of" (defArgs (top 51)) (defBody (top 51)) (defScope (top 51)) [] [] f fd) : Binds K fd p_verdict_of [] := F.bindsN fun _ _ _ _ _ _ us hl => match us, hl with | [_, _], _ => rfl
def d_has_room : He.DefD := ⟨("has_room", none), "has_room", "has_room", defArgs (top 33), defBody (top 33), defScope (top 33), [], []⟩
def p_has_room : List Str := ["template", "k", "number"]
theorem s_has_room : FnScope N_has_room p_has_room (defScope (top 33)) := ⟨by rfl, by rfl, by rfl, by decide +kernel, by rfl, by decide +kernel, by decide +kernel⟩
theorem b_has_room {K : PySem.W.Frag} {f : Addr} {fd : FuncData} (F : FunD K "has_room" "has_room" (defArgs (top 33)) (defBody (top 33)) (defScope (top 33)) [] [] f fd) : Binds K fd p_has_room [] := F.bindsN fun _ _ _ _ _ _ us hl => match us, hl with | [_, _, _], _ => rfl
def d_field_names : He.DefD := ⟨("field_names", none), "field_names", "field_names", defArgs (top 24), defBody (top 24), defScope (top 24), [], []⟩
def p_field_names : List Str := ["template"]
theorem s_field_names : FnScope N_field_names p_field_names (defScope (top 24)) := ⟨by rfl, by rfl, by rfl, by decide +kernel, by rfl, by decide +kernel, by decide +kernel⟩
theorem b_field_names {K : PySem.W.Frag} {f : Addr} {fd : FuncData} (F : FunD K "field_names" "field_names" (defArgs (top 24)) (defBody (top 24)) (defScope (top 24)) [] [] f fd) : Binds K fd p_field_names [] := F.bindsN fun _ _ _ _ _ _ us hl => match us, hl with | [_], _ => rfl
def d_most_at : He.DefD := ⟨("most_at", none), "most_at", "most_at", defArgs (top 31), defBody (top 31), defScope (top 31), [], []⟩
def p_most_at : List Str := ["template", "k", "number"]
theorem s_most_at : FnScope N_most_at p_most_at (defScope (top 31)) := ⟨by rfl, by rfl, by rfl, by decide +kernel, by rfl, by decide +kernel, by decide +kernel⟩
theorem b_most_at {K : PySem.W.Frag} {f : Addr} {fd : FuncData} (F : FunD K "most_at" "most_at" (defArgs (top 31)) (defBody (top 31)) (defScope (top 31)) [] [] f fd) : Binds K fd p_most_at [] := F.bindsN fun _ _ _ _ _ _ us hl => match us, hl with | [_, _, _], _ => rfl
def d_field_number : He.DefD := ⟨("field_number", none), "field_number", "field_number", defArgs (top 25), defBody (top 25), defScope (top 25), [], []⟩
def p_field_number : List Str := ["template", "name"]
theorem s_field_number : FnScope N_field_number p_field_number (defScope (top 25)) := ⟨by rfl, by rfl, by rfl, by decide +kernel, by rfl, by decide +kernel, by decide +kernel⟩
theorem b_field_number {K : PySem.W.Frag} {f : Addr} {fd : FuncData} (F : FunD K "field_number" "field_number" (defArgs (top 25)) (defBody (top 25)) (defScope (top 25)) [] [] f fd) : Binds K fd p_field_number [] := F.bindsN fun _ _ _ _ _ _ us hl => match us, hl with | [_, _], _ => rfl
def d_with_most : He.DefD := ⟨("with_most", none), "with_most", "with_most", defArgs (top 28), defBody (top 28), defScope (top 28), [], []⟩
def p_with_most : List Str := ["template", "name", "most"]
theorem s_with_most : FnScope N_with_most p_with_most (defScope (top 28)) := ⟨by rfl, by rfl, by rfl, by decide +kernel, by rfl, by decide +kernel, by decide +kernel⟩
theorem b_with_most {K : PySem.W.Frag} {f : Addr} {fd : FuncData} (F : FunD K "with_most" "with_most" (defArgs (top 28)) (defBody (top 28)) (defScope (top 28)) [] [] f fd) : Binds K fd p_with_most [] := F.bindsN fun _ _ _ _ _ _ us hl => match us, hl with | [_, _, _], _ => rfl
def d__law_given : He.DefD := ⟨("_law_given", none), "_law_given", "_law_given", defArgs (top 54), defBody (top 54), defScope (top 54), [], []⟩
def p__law_given : List Str := ["part", "values"]
theorem s__law_given : FnScope N__law_given p__law_given (defScope (top 54)) := ⟨by rfl, by rfl, by rfl, by decide +kernel, by rfl, by decide +kernel, by decide +kernel⟩
theorem b__law_given {K : PySem.W.Frag} {f : Addr} {fd : FuncData} (F : FunD K "_law_given" "_law_given" (defArgs (top 54)) (defBody (top 54)) (defScope (top 54)) [] [] f fd) : Binds K fd p__law_given [] := F.bindsN fun _ _ _ _ _ _ us hl => match us, hl with | [_, _], _ => rfl
def d_texts_length : He.DefD := ⟨("texts_length", none), "texts_length", "texts_length", defArgs (top 14), defBody (top 14), defScope (top 14), [], []⟩
def p_texts_length : List Str := ["part"]
theorem s_texts_length : FnScope N_texts_length p_texts_length (defScope (top 14)) := ⟨by rfl, by rfl, by rfl, by decide +kernel, by rfl, by decide +kernel, by decide +kernel⟩
theorem b_texts_length {K : PySem.W.Frag} {f : Addr} {fd : FuncData} (F : FunD K "texts_length" "texts_length" (defArgs (top 14)) (defBody (top 14)) (defScope (top 14)) [] [] f fd) : Binds K fd p_texts_length [] := F.bindsN fun _ _ _ _ _ _ us hl => match us, hl with | [_], _ => rfl
def d_long_row : He.DefD := ⟨("long_row", none), "long_row", "long_row", defArgs (top 15), defBody (top 15), defScope (top 15), [], []⟩
def p_long_row : List Str := ["part", "told"]
theorem s_long_row : FnScope N_long_row p_long_row (defScope (top 15)) := ⟨by rfl, by rfl, by rfl, by decide +kernel, by rfl, by decide +kernel, by decide +kernel⟩
theorem b_long_row {K : PySem.W.Frag} {f : Addr} {fd : FuncData} (F : FunD K "long_row" "long_row" (defArgs (top 15)) (defBody (top 15)) (defScope (top 15)) [] [] f fd) : Binds K fd p_long_row [] := F.bindsN fun _ _ _ _ _ _ us hl => match us, hl with | [_, _], _ => rfl
def d__law_kind : He.DefD := ⟨("_law_kind", none), "_law_kind", "_law_kind", defArgs (top 56), defBody (top 56), defScope (top 56), [], []⟩
def p__law_kind : List Str := ["kind"]
theorem s__law_kind : FnScope N__law_kind p__law_kind (defScope (top 56)) := ⟨by rfl, by rfl, by rfl, by decide +kernel, by rfl, by decide +kernel, by decide +kernel⟩
theorem b__law_kind {K : PySem.W.Frag} {f : Addr} {fd : FuncData} (F : FunD K "_law_kind" "_law_kind" (defArgs (top 56)) (defBody (top 56)) (defScope (top 56)) [] [] f fd) : Binds K fd p__law_kind [] := F.bindsN fun _ _ _ _ _ _ us hl => match us, hl with | [_], _ => rfl
def d_breach_of : He.DefD := ⟨("breach_of", none), "breach_of", "breach_of", defArgs (top 50), defBody (top 50), defScope (top 50), [], []⟩
def p_breach_of : List Str := ["template", "claim"]
theorem s_breach_of : FnScope N_breach_of p_breach_of (defScope (top 50)) := ⟨by rfl, by rfl, by rfl, by decide +kernel, by rfl, by decide +kernel, by decide +kernel⟩
theorem b_breach_of {K : PySem.W.Frag} {f : Addr} {fd : FuncData} (F : FunD K "breach_of" "breach_of" (defArgs (top 50)) (defBody (top 50)) (defScope (top 50)) [] [] f fd) : Binds K fd p_breach_of [] := F.bindsN fun _ _ _ _ _ _ us hl => match us, hl with | [_, _], _ => rfl
def d_with_length : He.DefD := ⟨("with_length", none), "with_length", "with_length", defArgs (top 30), defBody (top 30), defScope (top 30), [], []⟩
def p_with_length : List Str := ["template", "k", "most"]
theorem s_with_length : FnScope N_with_length p_with_length (defScope (top 30)) := ⟨by rfl, by rfl, by rfl, by decide +kernel, by rfl, by decide +kernel, by decide +kernel⟩
theorem b_with_length {K : PySem.W.Frag} {f : Addr} {fd : FuncData} (F : FunD K "with_length" "with_length" (defArgs (top 30)) (defBody (top 30)) (defScope (top 30)) [] [] f fd) : Binds K fd p_with_length [] := F.bindsN fun _ _ _ _ _ _ us hl => match us, hl with | [_, _, _], _ => rfl
def d_with_field : He.DefD := ⟨("with_field", none), "with_field", "with_field", defArgs (top 27), defBody (top 27), defScope (top 27), [], []⟩
def p_with_field : List Str := ["template", "k", "field"]
theorem s_with_field : FnScope N_with_field p_with_field (defScope (top 27)) := ⟨by rfl, by rfl, by rfl, by decide +kernel, by rfl, by decide +kernel, by decide +kernel⟩
theorem b_with_field {K : PySem.W.Frag} {f : Addr} {fd : FuncData} (F : FunD K "with_field" "with_field" (defArgs (top 27)) (defBody (top 27)) (defScope (top 27)) [] [] f fd) : Binds K fd p_with_field [] := F.bindsN fun _ _ _ _ _ _ us hl => match us, hl with | [_, _, _], _ => rfl
def d__law_fields : He.DefD := ⟨("_law_fields", none), "_law_fields", "_law_fields", defArgs (top 53), defBody (top 53), defScope (top 53), [], []⟩
def p__law_fields : List Str := ["part"]
theorem s__law_fields : FnScope N__law_fields p__law_fields (defScope (top 53)) := ⟨by rfl, by rfl, by rfl, by decide +kernel, by rfl, by decide +kernel, by decide +kernel⟩
theorem b__law_fields {K : PySem.W.Frag} {f : Addr} {fd : FuncData} (F : FunD K "_law_fields" "_law_fields" (defArgs (top 53)) (defBody (top 53)) (defScope (top 53)) [] [] f fd) : Binds K fd p__law_fields [] := F.bindsN fun _ _ _ _ _ _ us hl => match us, hl with | [_], _ => rfl
def d_ahead_text : He.DefD := ⟨("ahead_text", none), "ahead_text", "ahead_text", defArgs (top 10), defBody (top 10), defScope (top 10), [], []⟩
def p_ahead_text : List Str := ["part"]
theorem s_ahead_text : FnScope N_ahead_text p_ahead_text (defScope (top 10)) := ⟨by rfl, by rfl, by rfl, by decide +kernel, by rfl, by decide +kernel, by decide +kernel⟩
theorem b_ahead_text {K : PySem.W.Frag} {f : Addr} {fd : FuncData} (F : FunD K "ahead_text" "ahead_text" (defArgs (top 10)) (defBody (top 10)) (defScope (top 10)) [] [] f fd) : Binds K fd p_ahead_text [] := F.bindsN fun _ _ _ _ _ _ us hl => match us, hl with | [_], _ => rfl
def d_behind_text : He.DefD := ⟨("behind_text", none), "behind_text", "behind_text", defArgs (top 11), defBody (top 11), defScope (top 11), [], []⟩
def p_behind_text : List Str := ["part"]
theorem s_behind_text : FnScope N_behind_text p_behind_text (defScope (top 11)) := ⟨by rfl, by rfl, by rfl, by decide +kernel, by rfl, by decide +kernel, by decide +kernel⟩
theorem b_behind_text {K : PySem.W.Frag} {f : Addr} {fd : FuncData} (F : FunD K "behind_text" "behind_text" (defArgs (top 11)) (defBody (top 11)) (defScope (top 11)) [] [] f fd) : Binds K fd p_behind_text [] := F.bindsN fun _ _ _ _ _ _ us hl => match us, hl with | [_], _ => rfl
def d_longest_record : He.DefD := ⟨("longest_record", none), "longest_record", "longest_record", defArgs (top 20), defBody (top 20), defScope (top 20), [], []⟩
def p_longest_record : List Str := ["template"]
theorem s_longest_record : FnScope N_longest_record p_longest_record (defScope (top 20)) := ⟨by rfl, by rfl, by rfl, by decide +kernel, by rfl, by decide +kernel, by decide +kernel⟩
theorem b_longest_record {K : PySem.W.Frag} {f : Addr} {fd : FuncData} (F : FunD K "longest_record" "longest_record" (defArgs (top 20)) (defBody (top 20)) (defScope (top 20)) [] [] f fd) : Binds K fd p_longest_record [] := F.bindsN fun _ _ _ _ _ _ us hl => match us, hl with | [_], _ => rfl
def d_record_by : He.DefD := ⟨("record_by", none), "record_by", "record_by", defArgs (top 19), defBody (top 19), defScope (top 19), [], []⟩
def p_record_by : List Str := ["template", "fields", "is_long"]
theorem s_record_by : FnScope N_record_by p_record_by (defScope (top 19)) := ⟨by rfl, by rfl, by rfl, by decide +kernel, by rfl, by decide +kernel, by decide +kernel⟩
theorem b_record_by {K : PySem.W.Frag} {f : Addr} {fd : FuncData} (F : FunD K "record_by" "record_by" (defArgs (top 19)) (defBody (top 19)) (defScope (top 19)) [] [] f fd) : Binds K fd p_record_by [] := F.bindsN fun _ _ _ _ _ _ us hl => match us, hl with | [_, _, _], _ => rfl
def fn : List He.DefD := [d_law, d__law_jar, d__law_draw, d__law_template, d__law_text, d__law_moved, d__law_rows, d__law_longest, d__law_same, d_longest, d__law_asked, d__law_most, d_room_for, d_most_for, d__law_refused, d__law_changed, d__law_part, d__law_put, d__law_great, d_best_of, d__law_breaks, d_verdict_of, d_has_room, d_field_names, d_most_at, d_field_number, d_with_most, d__law_given, d_texts_length, d_long_row, d__law_kind, d_breach_of, d_with_length, d_with_field, d__law_fields, d_ahead_text, d_behind_text, d_longest_record, d_record_by]

end K87
end Ev
set_option maxHeartbeats 0
/-! K87c: the facts of k87's program. -/
namespace Ev
namespace K87
open PySem PySem.Spec PyProof.Rows L2
def ini : Stmt := (match top 3 with | .ClassDef _ _ _ b _ _ _ _ _ _ _ => b.getD 0 (.Pass ⟨0, 0, 0, 0⟩) | s => s)
def d_ini : He.DefD := ⟨("BadStep", some "__init__"), "__init__", "BadStep.__init__", defArgs ini, defBody ini, defScope ini, [], []⟩
def fnX : List He.DefD := fn ++ [d_ini]
def fa : List He.Fa := ([.glo "law", .glo "_law_jar", .glo "_law_draw", .glo "_law_template", .glo "_law_text", .glo "_law_moved", .glo "_law_rows", .glo "_law_longest", .glo "_law_same", .glo "longest", .glo "_law_asked", .glo "_law_most", .glo "room_for", .glo "most_for", .glo "_law_refused", .glo "_law_changed", .glo "_law_part", .glo "_law_put", .glo "_law_great", .glo "best_of", .glo "_law_breaks", .glo "verdict_of", .glo "has_room", .glo "field_names", .glo "most_at", .glo "field_number", .glo "with_most", .glo "_law_given", .glo "texts_length", .glo "long_row"] : List He.Fa) ++ ([.glo "_law_kind", .glo "breach_of", .glo "with_length", .glo "with_field", .glo "_law_fields", .glo "ahead_text", .glo "behind_text", .glo "longest_record", .glo "record_by", .glo "BadStep", .glo "VALUE_SIGN", .int "VALUE_MOST" 40, .str "KEPT" "kept", .str "BROKEN" "broken", .free "len", .free "tuple", .free "list", .free "sum", .free "max", .free "min", .free "any", .free "all", .free "int", .free "str", .free "sorted", .free "dict", .free "abs", .free "range", .free "enumerate", .free "zip"] : List He.Fa) ++ ([.free "reversed", .free "isinstance", .free "set", .free "bool"] : List He.Fa)
def ts : List He.Tab := [(fun K => He.ga K "VALUE_SIGN", ["letters", "digits", "signs"])]
def sgn : List (List Nat × List Nat) := [([108, 101, 116, 116, 101, 114, 115], [97]), ([100, 105, 103, 105, 116, 115], [48]), ([115, 105, 103, 110, 115], [97])]
def ex (K : PySem.W.Frag) : Bool := gdT K (He.ga K "VALUE_SIGN") sgn && (oexB K (He.ga K "BadStep") && (xfB K (He.ga K "BadStep") && (decide (PySem.W.findIn K (.ref (He.ga K "BadStep")) "__init__" = some (some (.ref (He.ma K (He.ga K "BadStep") "__init__")))) &&
  (decide (PySem.W.typeIn K (.ref (He.ma K (He.ga K "BadStep") "__init__")) = some (.type "function")) && (decide (PySem.W.findIn K (.ref (He.ga K "BadStep")) "word" = some none) && decide (PySem.W.exmOne K (.ref (He.ga K "BadStep")) (.ref (He.ga K "BadStep")) = some true))))))
section
variable {P : Program} {w : PySem.World} {K : PySem.W.Frag} {mg : Str → Option Value} {h : Heap}
theorem k_law (X : K.In h) (Gn : h.Ns mainGlobals mg) (c : SaysX fa fnX ts ex w K) : ∃ df, tab.find? (fun f => f.name == "law") = some df ∧ ∃ (qual : Str) (params : Arguments) (body : List Stmt) (scope : Scope) (f : Addr) (fd : FuncData) (N ps : List Str), mg (Str.ofString "law") = some (.ref f) ∧ PySem.W.keepIn K (.ref f) = true ∧ Binds K fd ps [] ∧ FunD K (Str.ofString "law") qual params body scope [] [] f fd ∧ FnScope N ps scope ∧ df.np = ps.length ∧ df.nl = N.length ∧
    chkB G ⟨N, scope, scope⟩ df.body body = true ∧ ∀ ks ix, G.kws "law" ks = some ix → ∀ (s : Shared) (ws rs : List Value), reo ws ix = some rs → ws.length = ks.length → BindsTo s fd ⟨[], (ks.map Str.ofString).zip ws⟩ (ps.zip rs) := by
  obtain ⟨fd, F⟩ := c.t.d.def_ 0 (d := d_law) rfl
  exact ⟨f_law, by rfl, "law", defArgs (top 72), defBody (top 72), defScope (top 72), _, fd, N_law, p_law, He.glo_ok X Gn (c.t.d.fact 0 (f := .glo "law") rfl), F.kp, b_law F, F, s_law, by rfl, by rfl, c_law, fun ks ix hk => by
    have hk' : (if ("law" : String) = "most_for" ∧ ks = ["number", "name", "template"] then some [2, 1, 0] else none) = some ix := hk
    rw [if_neg (fun e => absurd e.1 (by decide))] at hk'
    cases hk'⟩
theorem k__law_jar (X : K.In h) (Gn : h.Ns mainGlobals mg) (c : SaysX fa fnX ts ex w K) : ∃ df, tab.find? (fun f => f.name == "_law_jar") = some df ∧ ∃ (qual : Str) (params : Arguments) (body : List Stmt) (scope : Scope) (f : Addr) (fd : FuncData) (N ps : List Str), mg (Str.ofString "_law_jar") = some (.ref f) ∧ PySem.W.keepIn K (.ref f) = true ∧ Binds K fd ps [] ∧ FunD K (Str.ofString "_law_jar") qual params body scope [] [] f fd ∧ FnScope N ps scope ∧ df.np = ps.length ∧ df.nl = N.length ∧
    chkB G ⟨N, scope, scope⟩ df.body body = true ∧ ∀ ks ix, G.kws "_law_jar" ks = some ix → ∀ (s : Shared) (ws rs : List Value), reo ws ix = some rs → ws.length = ks.length → BindsTo s fd ⟨[], (ks.map Str.ofString).zip ws⟩ (ps.zip rs) := by
  obtain ⟨fd, F⟩ := c.t.d.def_ 1 (d := d__law_jar) rfl
  exact ⟨f__law_jar, by rfl, "_law_jar", defArgs (top 58), defBody (top 58), defScope (top 58), _, fd, N__law_jar, p__law_jar, He.glo_ok X Gn (c.t.d.fact 1 (f := .glo "_law_jar") rfl), F.kp, b__law_jar F, F, s__law_jar, by rfl, by rfl, c__law_jar, fun ks ix hk => by
    have hk' : (if ("_law_jar" : String) = "most_for" ∧ ks = ["number", "name", "template"] then some [2, 1, 0] else none) = some ix := hk
    rw [if_neg (fun e => absurd e.1 (by decide))] at hk'
    cases hk'⟩
theorem k__law_draw (X : K.In h) (Gn : h.Ns mainGlobals mg) (c : SaysX fa fnX ts ex w K) : ∃ df, tab.find? (fun f => f.name == "_law_draw") = some df ∧ ∃ (qual : Str) (params : Arguments) (body : List Stmt) (scope : Scope) (f : Addr) (fd : FuncData) (N ps : List Str), mg (Str.ofString "_law_draw") = some (.ref f) ∧ PySem.W.keepIn K (.ref f) = true ∧ Binds K fd ps [] ∧ FunD K (Str.ofString "_law_draw") qual params body scope [] [] f fd ∧ FnScope N ps scope ∧ df.np = ps.length ∧ df.nl = N.length ∧
    chkB G ⟨N, scope, scope⟩ df.body body = true ∧ ∀ ks ix, G.kws "_law_draw" ks = some ix → ∀ (s : Shared) (ws rs : List Value), reo ws ix = some rs → ws.length = ks.length → BindsTo s fd ⟨[], (ks.map Str.ofString).zip ws⟩ (ps.zip rs) := by
  obtain ⟨fd, F⟩ := c.t.d.def_ 2 (d := d__law_draw) rfl
  exact ⟨f__law_draw, by rfl, "_law_draw", defArgs (top 59), defBody (top 59), defScope (top 59), _, fd, N__law_draw, p__law_draw, He.glo_ok X Gn (c.t.d.fact 2 (f := .glo "_law_draw") rfl), F.kp, b__law_draw F, F, s__law_draw, by rfl, by rfl, c__law_draw, fun ks ix hk => by
    have hk' : (if ("_law_draw" : String) = "most_for" ∧ ks = ["number", "name", "template"] then some [2, 1, 0] else none) = some ix := hk
    rw [if_neg (fun e => absurd e.1 (by decide))] at hk'
    cases hk'⟩
theorem k__law_template (X : K.In h) (Gn : h.Ns mainGlobals mg) (c : SaysX fa fnX ts ex w K) : ∃ df, tab.find? (fun f => f.name == "_law_template") = some df ∧ ∃ (qual : Str) (params : Arguments) (body : List Stmt) (scope : Scope) (f : Addr) (fd : FuncData) (N ps : List Str), mg (Str.ofString "_law_template") = some (.ref f) ∧ PySem.W.keepIn K (.ref f) = true ∧ Binds K fd ps [] ∧ FunD K (Str.ofString "_law_template") qual params body scope [] [] f fd ∧ FnScope N ps scope ∧ df.np = ps.length ∧ df.nl = N.length ∧
    chkB G ⟨N, scope, scope⟩ df.body body = true ∧ ∀ ks ix, G.kws "_law_template" ks = some ix → ∀ (s : Shared) (ws rs : List Value), reo ws ix = some rs → ws.length = ks.length → BindsTo s fd ⟨[], (ks.map Str.ofString).zip ws⟩ (ps.zip rs) := by
  obtain ⟨fd, F⟩ := c.t.d.def_ 3 (d := d__law_template) rfl
  exact ⟨f__law_template, by rfl, "_law_template", defArgs (top 62), defBody (top 62), defScope (top 62), _, fd, N__law_template, p__law_template, He.glo_ok X Gn (c.t.d.fact 3 (f := .glo "_law_template") rfl), F.kp, b__law_template F, F, s__law_template, by rfl, by rfl, c__law_template, fun ks ix hk => by
    have hk' : (if ("_law_template" : String) = "most_for" ∧ ks = ["number", "name", "template"] then some [2, 1, 0] else none) = some ix := hk
    rw [if_neg (fun e => absurd e.1 (by decide))] at hk'
    cases hk'⟩
theorem k__law_text (X : K.In h) (Gn : h.Ns mainGlobals mg) (c : SaysX fa fnX ts ex w K) : ∃ df, tab.find? (fun f => f.name == "_law_text") = some df ∧ ∃ (qual : Str) (params : Arguments) (body : List Stmt) (scope : Scope) (f : Addr) (fd : FuncData) (N ps : List Str), mg (Str.ofString "_law_text") = some (.ref f) ∧ PySem.W.keepIn K (.ref f) = true ∧ Binds K fd ps [] ∧ FunD K (Str.ofString "_law_text") qual params body scope [] [] f fd ∧ FnScope N ps scope ∧ df.np = ps.length ∧ df.nl = N.length ∧
    chkB G ⟨N, scope, scope⟩ df.body body = true ∧ ∀ ks ix, G.kws "_law_text" ks = some ix → ∀ (s : Shared) (ws rs : List Value), reo ws ix = some rs → ws.length = ks.length → BindsTo s fd ⟨[], (ks.map Str.ofString).zip ws⟩ (ps.zip rs) := by
  obtain ⟨fd, F⟩ := c.t.d.def_ 4 (d := d__law_text) rfl
  exact ⟨f__law_text, by rfl, "_law_text", defArgs (top 60), defBody (top 60), defScope (top 60), _, fd, N__law_text, p__law_text, He.glo_ok X Gn (c.t.d.fact 4 (f := .glo "_law_text") rfl), F.kp, b__law_text F, F, s__law_text, by rfl, by rfl, c__law_text, fun ks ix hk => by
    have hk' : (if ("_law_text" : String) = "most_for" ∧ ks = ["number", "name", "template"] then some [2, 1, 0] else none) = some ix := hk
    rw [if_neg (fun e => absurd e.1 (by decide))] at hk'
    cases hk'⟩
theorem k__law_moved (X : K.In h) (Gn : h.Ns mainGlobals mg) (c : SaysX fa fnX ts ex w K) : ∃ df, tab.find? (fun f => f.name == "_law_moved") = some df ∧ ∃ (qual : Str) (params : Arguments) (body : List Stmt) (scope : Scope) (f : Addr) (fd : FuncData) (N ps : List Str), mg (Str.ofString "_law_moved") = some (.ref f) ∧ PySem.W.keepIn K (.ref f) = true ∧ Binds K fd ps [] ∧ FunD K (Str.ofString "_law_moved") qual params body scope [] [] f fd ∧ FnScope N ps scope ∧ df.np = ps.length ∧ df.nl = N.length ∧
    chkB G ⟨N, scope, scope⟩ df.body body = true ∧ ∀ ks ix, G.kws "_law_moved" ks = some ix → ∀ (s : Shared) (ws rs : List Value), reo ws ix = some rs → ws.length = ks.length → BindsTo s fd ⟨[], (ks.map Str.ofString).zip ws⟩ (ps.zip rs) := by
  obtain ⟨fd, F⟩ := c.t.d.def_ 5 (d := d__law_moved) rfl
  exact ⟨f__law_moved, by rfl, "_law_moved", defArgs (top 71), defBody (top 71), defScope (top 71), _, fd, N__law_moved, p__law_moved, He.glo_ok X Gn (c.t.d.fact 5 (f := .glo "_law_moved") rfl), F.kp, b__law_moved F, F, s__law_moved, by rfl, by rfl, c__law_moved, fun ks ix hk => by
    have hk' : (if ("_law_moved" : String) = "most_for" ∧ ks = ["number", "name", "template"] then some [2, 1, 0] else none) = some ix := hk
    rw [if_neg (fun e => absurd e.1 (by decide))] at hk'
    cases hk'⟩
theorem k__law_rows (X : K.In h) (Gn : h.Ns mainGlobals mg) (c : SaysX fa fnX ts ex w K) : ∃ df, tab.find? (fun f => f.name == "_law_rows") = some df ∧ ∃ (qual : Str) (params : Arguments) (body : List Stmt) (scope : Scope) (f : Addr) (fd : FuncData) (N ps : List Str), mg (Str.ofString "_law_rows") = some (.ref f) ∧ PySem.W.keepIn K (.ref f) = true ∧ Binds K fd ps [] ∧ FunD K (Str.ofString "_law_rows") qual params body scope [] [] f fd ∧ FnScope N ps scope ∧ df.np = ps.length ∧ df.nl = N.length ∧
    chkB G ⟨N, scope, scope⟩ df.body body = true ∧ ∀ ks ix, G.kws "_law_rows" ks = some ix → ∀ (s : Shared) (ws rs : List Value), reo ws ix = some rs → ws.length = ks.length → BindsTo s fd ⟨[], (ks.map Str.ofString).zip ws⟩ (ps.zip rs) := by
  obtain ⟨fd, F⟩ := c.t.d.def_ 6 (d := d__law_rows) rfl
  exact ⟨f__law_rows, by rfl, "_law_rows", defArgs (top 63), defBody (top 63), defScope (top 63), _, fd, N__law_rows, p__law_rows, He.glo_ok X Gn (c.t.d.fact 6 (f := .glo "_law_rows") rfl), F.kp, b__law_rows F, F, s__law_rows, by rfl, by rfl, c__law_rows, fun ks ix hk => by
    have hk' : (if ("_law_rows" : String) = "most_for" ∧ ks = ["number", "name", "template"] then some [2, 1, 0] else none) = some ix := hk
    rw [if_neg (fun e => absurd e.1 (by decide))] at hk'
    cases hk'⟩
theorem k__law_longest (X : K.In h) (Gn : h.Ns mainGlobals mg) (c : SaysX fa fnX ts ex w K) : ∃ df, tab.find? (fun f => f.name == "_law_longest") = some df ∧ ∃ (qual : Str) (params : Arguments) (body : List Stmt) (scope : Scope) (f : Addr) (fd : FuncData) (N ps : List Str), mg (Str.ofString "_law_longest") = some (.ref f) ∧ PySem.W.keepIn K (.ref f) = true ∧ Binds K fd ps [] ∧ FunD K (Str.ofString "_law_longest") qual params body scope [] [] f fd ∧ FnScope N ps scope ∧ df.np = ps.length ∧ df.nl = N.length ∧
    chkB G ⟨N, scope, scope⟩ df.body body = true ∧ ∀ ks ix, G.kws "_law_longest" ks = some ix → ∀ (s : Shared) (ws rs : List Value), reo ws ix = some rs → ws.length = ks.length → BindsTo s fd ⟨[], (ks.map Str.ofString).zip ws⟩ (ps.zip rs) := by
  obtain ⟨fd, F⟩ := c.t.d.def_ 7 (d := d__law_longest) rfl
  exact ⟨f__law_longest, by rfl, "_law_longest", defArgs (top 65), defBody (top 65), defScope (top 65), _, fd, N__law_longest, p__law_longest, He.glo_ok X Gn (c.t.d.fact 7 (f := .glo "_law_longest") rfl), F.kp, b__law_longest F, F, s__law_longest, by rfl, by rfl, c__law_longest, fun ks ix hk => by
    have hk' : (if ("_law_longest" : String) = "most_for" ∧ ks = ["number", "name", "template"] then some [2, 1, 0] else none) = some ix := hk
    rw [if_neg (fun e => absurd e.1 (by decide))] at hk'
    cases hk'⟩
theorem k__law_same (X : K.In h) (Gn : h.Ns mainGlobals mg) (c : SaysX fa fnX ts ex w K) : ∃ df, tab.find? (fun f => f.name == "_law_same") = some df ∧ ∃ (qual : Str) (params : Arguments) (body : List Stmt) (scope : Scope) (f : Addr) (fd : FuncData) (N ps : List Str), mg (Str.ofString "_law_same") = some (.ref f) ∧ PySem.W.keepIn K (.ref f) = true ∧ Binds K fd ps [] ∧ FunD K (Str.ofString "_law_same") qual params body scope [] [] f fd ∧ FnScope N ps scope ∧ df.np = ps.length ∧ df.nl = N.length ∧
    chkB G ⟨N, scope, scope⟩ df.body body = true ∧ ∀ ks ix, G.kws "_law_same" ks = some ix → ∀ (s : Shared) (ws rs : List Value), reo ws ix = some rs → ws.length = ks.length → BindsTo s fd ⟨[], (ks.map Str.ofString).zip ws⟩ (ps.zip rs) := by
  obtain ⟨fd, F⟩ := c.t.d.def_ 8 (d := d__law_same) rfl
  exact ⟨f__law_same, by rfl, "_law_same", defArgs (top 57), defBody (top 57), defScope (top 57), _, fd, N__law_same, p__law_same, He.glo_ok X Gn (c.t.d.fact 8 (f := .glo "_law_same") rfl), F.kp, b__law_same F, F, s__law_same, by rfl, by rfl, c__law_same, fun ks ix hk => by
    have hk' : (if ("_law_same" : String) = "most_for" ∧ ks = ["number", "name", "template"] then some [2, 1, 0] else none) = some ix := hk
    rw [if_neg (fun e => absurd e.1 (by decide))] at hk'
    cases hk'⟩
theorem k_longest (X : K.In h) (Gn : h.Ns mainGlobals mg) (c : SaysX fa fnX ts ex w K) : ∃ df, tab.find? (fun f => f.name == "longest") = some df ∧ ∃ (qual : Str) (params : Arguments) (body : List Stmt) (scope : Scope) (f : Addr) (fd : FuncData) (N ps : List Str), mg (Str.ofString "longest") = some (.ref f) ∧ PySem.W.keepIn K (.ref f) = true ∧ Binds K fd ps [] ∧ FunD K (Str.ofString "longest") qual params body scope [] [] f fd ∧ FnScope N ps scope ∧ df.np = ps.length ∧ df.nl = N.length ∧
    chkB G ⟨N, scope, scope⟩ df.body body = true ∧ ∀ ks ix, G.kws "longest" ks = some ix → ∀ (s : Shared) (ws rs : List Value), reo ws ix = some rs → ws.length = ks.length → BindsTo s fd ⟨[], (ks.map Str.ofString).zip ws⟩ (ps.zip rs) := by
  obtain ⟨fd, F⟩ := c.t.d.def_ 9 (d := d_longest) rfl
  exact ⟨f_longest, by rfl, "longest", defArgs (top 17), defBody (top 17), defScope (top 17), _, fd, N_longest, p_longest, He.glo_ok X Gn (c.t.d.fact 9 (f := .glo "longest") rfl), F.kp, b_longest F, F, s_longest, by rfl, by rfl, c_longest, fun ks ix hk => by
    have hk' : (if ("longest" : String) = "most_for" ∧ ks = ["number", "name", "template"] then some [2, 1, 0] else none) = some ix := hk
    rw [if_neg (fun e => absurd e.1 (by decide))] at hk'
    cases hk'⟩
theorem k__law_asked (X : K.In h) (Gn : h.Ns mainGlobals mg) (c : SaysX fa fnX ts ex w K) : ∃ df, tab.find? (fun f => f.name == "_law_asked") = some df ∧ ∃ (qual : Str) (params : Arguments) (body : List Stmt) (scope : Scope) (f : Addr) (fd : FuncData) (N ps : List Str), mg (Str.ofString "_law_asked") = some (.ref f) ∧ PySem.W.keepIn K (.ref f) = true ∧ Binds K fd ps [] ∧ FunD K (Str.ofString "_law_asked") qual params body scope [] [] f fd ∧ FnScope N ps scope ∧ df.np = ps.length ∧ df.nl = N.length ∧
    chkB G ⟨N, scope, scope⟩ df.body body = true ∧ ∀ ks ix, G.kws "_law_asked" ks = some ix → ∀ (s : Shared) (ws rs : List Value), reo ws ix = some rs → ws.length = ks.length → BindsTo s fd ⟨[], (ks.map Str.ofString).zip ws⟩ (ps.zip rs) := by
  obtain ⟨fd, F⟩ := c.t.d.def_ 10 (d := d__law_asked) rfl
  exact ⟨f__law_asked, by rfl, "_law_asked", defArgs (top 70), defBody (top 70), defScope (top 70), _, fd, N__law_asked, p__law_asked, He.glo_ok X Gn (c.t.d.fact 10 (f := .glo "_law_asked") rfl), F.kp, b__law_asked F, F, s__law_asked, by rfl, by rfl, c__law_asked, fun ks ix hk => by
    have hk' : (if ("_law_asked" : String) = "most_for" ∧ ks = ["number", "name", "template"] then some [2, 1, 0] else none) = some ix := hk
    rw [if_neg (fun e => absurd e.1 (by decide))] at hk'
    cases hk'⟩
theorem k__law_most (X : K.In h) (Gn : h.Ns mainGlobals mg) (c : SaysX fa fnX ts ex w K) : ∃ df, tab.find? (fun f => f.name == "_law_most") = some df ∧ ∃ (qual : Str) (params : Arguments) (body : List Stmt) (scope : Scope) (f : Addr) (fd : FuncData) (N ps : List Str), mg (Str.ofString "_law_most") = some (.ref f) ∧ PySem.W.keepIn K (.ref f) = true ∧ Binds K fd ps [] ∧ FunD K (Str.ofString "_law_most") qual params body scope [] [] f fd ∧ FnScope N ps scope ∧ df.np = ps.length ∧ df.nl = N.length ∧
    chkB G ⟨N, scope, scope⟩ df.body body = true ∧ ∀ ks ix, G.kws "_law_most" ks = some ix → ∀ (s : Shared) (ws rs : List Value), reo ws ix = some rs → ws.length = ks.length → BindsTo s fd ⟨[], (ks.map Str.ofString).zip ws⟩ (ps.zip rs) := by
  obtain ⟨fd, F⟩ := c.t.d.def_ 11 (d := d__law_most) rfl
  exact ⟨f__law_most, by rfl, "_law_most", defArgs (top 66), defBody (top 66), defScope (top 66), _, fd, N__law_most, p__law_most, He.glo_ok X Gn (c.t.d.fact 11 (f := .glo "_law_most") rfl), F.kp, b__law_most F, F, s__law_most, by rfl, by rfl, c__law_most, fun ks ix hk => by
    have hk' : (if ("_law_most" : String) = "most_for" ∧ ks = ["number", "name", "template"] then some [2, 1, 0] else none) = some ix := hk
    rw [if_neg (fun e => absurd e.1 (by decide))] at hk'
    cases hk'⟩
theorem k_room_for (X : K.In h) (Gn : h.Ns mainGlobals mg) (c : SaysX fa fnX ts ex w K) : ∃ df, tab.find? (fun f => f.name == "room_for") = some df ∧ ∃ (qual : Str) (params : Arguments) (body : List Stmt) (scope : Scope) (f : Addr) (fd : FuncData) (N ps : List Str), mg (Str.ofString "room_for") = some (.ref f) ∧ PySem.W.keepIn K (.ref f) = true ∧ Binds K fd ps [] ∧ FunD K (Str.ofString "room_for") qual params body scope [] [] f fd ∧ FnScope N ps scope ∧ df.np = ps.length ∧ df.nl = N.length ∧
    chkB G ⟨N, scope, scope⟩ df.body body = true ∧ ∀ ks ix, G.kws "room_for" ks = some ix → ∀ (s : Shared) (ws rs : List Value), reo ws ix = some rs → ws.length = ks.length → BindsTo s fd ⟨[], (ks.map Str.ofString).zip ws⟩ (ps.zip rs) := by
  obtain ⟨fd, F⟩ := c.t.d.def_ 12 (d := d_room_for) rfl
  exact ⟨f_room_for, by rfl, "room_for", defArgs (top 34), defBody (top 34), defScope (top 34), _, fd, N_room_for, p_room_for, He.glo_ok X Gn (c.t.d.fact 12 (f := .glo "room_for") rfl), F.kp, b_room_for F, F, s_room_for, by rfl, by rfl, c_room_for, fun ks ix hk => by
    have hk' : (if ("room_for" : String) = "most_for" ∧ ks = ["number", "name", "template"] then some [2, 1, 0] else none) = some ix := hk
    rw [if_neg (fun e => absurd e.1 (by decide))] at hk'
    cases hk'⟩
theorem k_most_for (X : K.In h) (Gn : h.Ns mainGlobals mg) (c : SaysX fa fnX ts ex w K) : ∃ df, tab.find? (fun f => f.name == "most_for") = some df ∧ ∃ (qual : Str) (params : Arguments) (body : List Stmt) (scope : Scope) (f : Addr) (fd : FuncData) (N ps : List Str), mg (Str.ofString "most_for") = some (.ref f) ∧ PySem.W.keepIn K (.ref f) = true ∧ Binds K fd ps [] ∧ FunD K (Str.ofString "most_for") qual params body scope [] [] f fd ∧ FnScope N ps scope ∧ df.np = ps.length ∧ df.nl = N.length ∧
    chkB G ⟨N, scope, scope⟩ df.body body = true ∧ ∀ ks ix, G.kws "most_for" ks = some ix → ∀ (s : Shared) (ws rs : List Value), reo ws ix = some rs → ws.length = ks.length → BindsTo s fd ⟨[], (ks.map Str.ofString).zip ws⟩ (ps.zip rs) := by
  obtain ⟨fd, F⟩ := c.t.d.def_ 13 (d := d_most_for) rfl
  exact ⟨f_most_for, by rfl, "most_for", defArgs (top 32), defBody (top 32), defScope (top 32), _, fd, N_most_for, p_most_for, He.glo_ok X Gn (c.t.d.fact 13 (f := .glo "most_for") rfl), F.kp, b_most_for F, F, s_most_for, by rfl, by rfl, c_most_for, fun ks ix hk => by
    have hk' : (if ("most_for" : String) = "most_for" ∧ ks = ["number", "name", "template"] then some [2, 1, 0] else none) = some ix := hk
    by_cases e : ("most_for" : String) = "most_for" ∧ ks = ["number", "name", "template"]
    · rw [if_pos e] at hk'
      cases hk'
      obtain ⟨_, rfl⟩ := e
      intro s ws rs hr hl
      rcases ws with _ | ⟨w0, _ | ⟨w1, _ | ⟨w2, _ | ⟨w3, ws⟩⟩⟩⟩ <;> simp at hl
      have e2 : rs = [w2, w1, w0] := by
        have : reo [w0, w1, w2] [2, 1, 0] = some [w2, w1, w0] := by simp [reo]
        rw [this] at hr; exact (Option.some.inj hr).symm
      subst e2
      exact bindsKw F (fun _ _ _ _ _ _ => rfl) s
    · rw [if_neg e] at hk'; cases hk'⟩
theorem k__law_refused (X : K.In h) (Gn : h.Ns mainGlobals mg) (c : SaysX fa fnX ts ex w K) : ∃ df, tab.find? (fun f => f.name == "_law_refused") = some df ∧ ∃ (qual : Str) (params : Arguments) (body : List Stmt) (scope : Scope) (f : Addr) (fd : FuncData) (N ps : List Str), mg (Str.ofString "_law_refused") = some (.ref f) ∧ PySem.W.keepIn K (.ref f) = true ∧ Binds K fd ps [] ∧ FunD K (Str.ofString "_law_refused") qual params body scope [] [] f fd ∧ FnScope N ps scope ∧ df.np = ps.length ∧ df.nl = N.length ∧
    chkB G ⟨N, scope, scope⟩ df.body body = true ∧ ∀ ks ix, G.kws "_law_refused" ks = some ix → ∀ (s : Shared) (ws rs : List Value), reo ws ix = some rs → ws.length = ks.length → BindsTo s fd ⟨[], (ks.map Str.ofString).zip ws⟩ (ps.zip rs) := by
  obtain ⟨fd, F⟩ := c.t.d.def_ 14 (d := d__law_refused) rfl
  exact ⟨f__law_refused, by rfl, "_law_refused", defArgs (top 69), defBody (top 69), defScope (top 69), _, fd, N__law_refused, p__law_refused, He.glo_ok X Gn (c.t.d.fact 14 (f := .glo "_law_refused") rfl), F.kp, b__law_refused F, F, s__law_refused, by rfl, by rfl, c__law_refused, fun ks ix hk => by
    have hk' : (if ("_law_refused" : String) = "most_for" ∧ ks = ["number", "name", "template"] then some [2, 1, 0] else none) = some ix := hk
    rw [if_neg (fun e => absurd e.1 (by decide))] at hk'
    cases hk'⟩
theorem k__law_changed (X : K.In h) (Gn : h.Ns mainGlobals mg) (c : SaysX fa fnX ts ex w K) : ∃ df, tab.find? (fun f => f.name == "_law_changed") = some df ∧ ∃ (qual : Str) (params : Arguments) (body : List Stmt) (scope : Scope) (f : Addr) (fd : FuncData) (N ps : List Str), mg (Str.ofString "_law_changed") = some (.ref f) ∧ PySem.W.keepIn K (.ref f) = true ∧ Binds K fd ps [] ∧ FunD K (Str.ofString "_law_changed") qual params body scope [] [] f fd ∧ FnScope N ps scope ∧ df.np = ps.length ∧ df.nl = N.length ∧
    chkB G ⟨N, scope, scope⟩ df.body body = true ∧ ∀ ks ix, G.kws "_law_changed" ks = some ix → ∀ (s : Shared) (ws rs : List Value), reo ws ix = some rs → ws.length = ks.length → BindsTo s fd ⟨[], (ks.map Str.ofString).zip ws⟩ (ps.zip rs) := by
  obtain ⟨fd, F⟩ := c.t.d.def_ 15 (d := d__law_changed) rfl
  exact ⟨f__law_changed, by rfl, "_law_changed", defArgs (top 67), defBody (top 67), defScope (top 67), _, fd, N__law_changed, p__law_changed, He.glo_ok X Gn (c.t.d.fact 15 (f := .glo "_law_changed") rfl), F.kp, b__law_changed F, F, s__law_changed, by rfl, by rfl, c__law_changed, fun ks ix hk => by
    have hk' : (if ("_law_changed" : String) = "most_for" ∧ ks = ["number", "name", "template"] then some [2, 1, 0] else none) = some ix := hk
    rw [if_neg (fun e => absurd e.1 (by decide))] at hk'
    cases hk'⟩
theorem k__law_part (X : K.In h) (Gn : h.Ns mainGlobals mg) (c : SaysX fa fnX ts ex w K) : ∃ df, tab.find? (fun f => f.name == "_law_part") = some df ∧ ∃ (qual : Str) (params : Arguments) (body : List Stmt) (scope : Scope) (f : Addr) (fd : FuncData) (N ps : List Str), mg (Str.ofString "_law_part") = some (.ref f) ∧ PySem.W.keepIn K (.ref f) = true ∧ Binds K fd ps [] ∧ FunD K (Str.ofString "_law_part") qual params body scope [] [] f fd ∧ FnScope N ps scope ∧ df.np = ps.length ∧ df.nl = N.length ∧
    chkB G ⟨N, scope, scope⟩ df.body body = true ∧ ∀ ks ix, G.kws "_law_part" ks = some ix → ∀ (s : Shared) (ws rs : List Value), reo ws ix = some rs → ws.length = ks.length → BindsTo s fd ⟨[], (ks.map Str.ofString).zip ws⟩ (ps.zip rs) := by
  obtain ⟨fd, F⟩ := c.t.d.def_ 16 (d := d__law_part) rfl
  exact ⟨f__law_part, by rfl, "_law_part", defArgs (top 61), defBody (top 61), defScope (top 61), _, fd, N__law_part, p__law_part, He.glo_ok X Gn (c.t.d.fact 16 (f := .glo "_law_part") rfl), F.kp, b__law_part F, F, s__law_part, by rfl, by rfl, c__law_part, fun ks ix hk => by
    have hk' : (if ("_law_part" : String) = "most_for" ∧ ks = ["number", "name", "template"] then some [2, 1, 0] else none) = some ix := hk
    rw [if_neg (fun e => absurd e.1 (by decide))] at hk'
    cases hk'⟩
theorem k__law_put (X : K.In h) (Gn : h.Ns mainGlobals mg) (c : SaysX fa fnX ts ex w K) : ∃ df, tab.find? (fun f => f.name == "_law_put") = some df ∧ ∃ (qual : Str) (params : Arguments) (body : List Stmt) (scope : Scope) (f : Addr) (fd : FuncData) (N ps : List Str), mg (Str.ofString "_law_put") = some (.ref f) ∧ PySem.W.keepIn K (.ref f) = true ∧ Binds K fd ps [] ∧ FunD K (Str.ofString "_law_put") qual params body scope [] [] f fd ∧ FnScope N ps scope ∧ df.np = ps.length ∧ df.nl = N.length ∧
    chkB G ⟨N, scope, scope⟩ df.body body = true ∧ ∀ ks ix, G.kws "_law_put" ks = some ix → ∀ (s : Shared) (ws rs : List Value), reo ws ix = some rs → ws.length = ks.length → BindsTo s fd ⟨[], (ks.map Str.ofString).zip ws⟩ (ps.zip rs) := by
  obtain ⟨fd, F⟩ := c.t.d.def_ 17 (d := d__law_put) rfl
  exact ⟨f__law_put, by rfl, "_law_put", defArgs (top 55), defBody (top 55), defScope (top 55), _, fd, N__law_put, p__law_put, He.glo_ok X Gn (c.t.d.fact 17 (f := .glo "_law_put") rfl), F.kp, b__law_put F, F, s__law_put, by rfl, by rfl, c__law_put, fun ks ix hk => by
    have hk' : (if ("_law_put" : String) = "most_for" ∧ ks = ["number", "name", "template"] then some [2, 1, 0] else none) = some ix := hk
    rw [if_neg (fun e => absurd e.1 (by decide))] at hk'
    cases hk'⟩
theorem k__law_great (X : K.In h) (Gn : h.Ns mainGlobals mg) (c : SaysX fa fnX ts ex w K) : ∃ df, tab.find? (fun f => f.name == "_law_great") = some df ∧ ∃ (qual : Str) (params : Arguments) (body : List Stmt) (scope : Scope) (f : Addr) (fd : FuncData) (N ps : List Str), mg (Str.ofString "_law_great") = some (.ref f) ∧ PySem.W.keepIn K (.ref f) = true ∧ Binds K fd ps [] ∧ FunD K (Str.ofString "_law_great") qual params body scope [] [] f fd ∧ FnScope N ps scope ∧ df.np = ps.length ∧ df.nl = N.length ∧
    chkB G ⟨N, scope, scope⟩ df.body body = true ∧ ∀ ks ix, G.kws "_law_great" ks = some ix → ∀ (s : Shared) (ws rs : List Value), reo ws ix = some rs → ws.length = ks.length → BindsTo s fd ⟨[], (ks.map Str.ofString).zip ws⟩ (ps.zip rs) := by
  obtain ⟨fd, F⟩ := c.t.d.def_ 18 (d := d__law_great) rfl
  exact ⟨f__law_great, by rfl, "_law_great", defArgs (top 64), defBody (top 64), defScope (top 64), _, fd, N__law_great, p__law_great, He.glo_ok X Gn (c.t.d.fact 18 (f := .glo "_law_great") rfl), F.kp, b__law_great F, F, s__law_great, by rfl, by rfl, c__law_great, fun ks ix hk => by
    have hk' : (if ("_law_great" : String) = "most_for" ∧ ks = ["number", "name", "template"] then some [2, 1, 0] else none) = some ix := hk
    rw [if_neg (fun e => absurd e.1 (by decide))] at hk'
    cases hk'⟩
theorem k_best_of (X : K.In h) (Gn : h.Ns mainGlobals mg) (c : SaysX fa fnX ts ex w K) : ∃ df, tab.find? (fun f => f.name == "best_of") = some df ∧ ∃ (qual : Str) (params : Arguments) (body : List Stmt) (scope : Scope) (f : Addr) (fd : FuncData) (N ps : List Str), mg (Str.ofString "best_of") = some (.ref f) ∧ PySem.W.keepIn K (.ref f) = true ∧ Binds K fd ps [] ∧ FunD K (Str.ofString "best_of") qual params body scope [] [] f fd ∧ FnScope N ps scope ∧ df.np = ps.length ∧ df.nl = N.length ∧
    chkB G ⟨N, scope, scope⟩ df.body body = true ∧ ∀ ks ix, G.kws "best_of" ks = some ix → ∀ (s : Shared) (ws rs : List Value), reo ws ix = some rs → ws.length = ks.length → BindsTo s fd ⟨[], (ks.map Str.ofString).zip ws⟩ (ps.zip rs) := by
  obtain ⟨fd, F⟩ := c.t.d.def_ 19 (d := d_best_of) rfl
  exact ⟨f_best_of, by rfl, "best_of", defArgs (top 16), defBody (top 16), defScope (top 16), _, fd, N_best_of, p_best_of, He.glo_ok X Gn (c.t.d.fact 19 (f := .glo "best_of") rfl), F.kp, b_best_of F, F, s_best_of, by rfl, by rfl, c_best_of, fun ks ix hk => by
    have hk' : (if ("best_of" : String) = "most_for" ∧ ks = ["number", "name", "template"] then some [2, 1, 0] else none) = some ix := hk
    rw [if_neg (fun e => absurd e.1 (by decide))] at hk'
    cases hk'⟩
theorem k__law_breaks (X : K.In h) (Gn : h.Ns mainGlobals mg) (c : SaysX fa fnX ts ex w K) : ∃ df, tab.find? (fun f => f.name == "_law_breaks") = some df ∧ ∃ (qual : Str) (params : Arguments) (body : List Stmt) (scope : Scope) (f : Addr) (fd : FuncData) (N ps : List Str), mg (Str.ofString "_law_breaks") = some (.ref f) ∧ PySem.W.keepIn K (.ref f) = true ∧ Binds K fd ps [] ∧ FunD K (Str.ofString "_law_breaks") qual params body scope [] [] f fd ∧ FnScope N ps scope ∧ df.np = ps.length ∧ df.nl = N.length ∧
    chkB G ⟨N, scope, scope⟩ df.body body = true ∧ ∀ ks ix, G.kws "_law_breaks" ks = some ix → ∀ (s : Shared) (ws rs : List Value), reo ws ix = some rs → ws.length = ks.length → BindsTo s fd ⟨[], (ks.map Str.ofString).zip ws⟩ (ps.zip rs) := by
  obtain ⟨fd, F⟩ := c.t.d.def_ 20 (d := d__law_breaks) rfl
  exact ⟨f__law_breaks, by rfl, "_law_breaks", defArgs (top 68), defBody (top 68), defScope (top 68), _, fd, N__law_breaks, p__law_breaks, He.glo_ok X Gn (c.t.d.fact 20 (f := .glo "_law_breaks") rfl), F.kp, b__law_breaks F, F, s__law_breaks, by rfl, by rfl, c__law_breaks, fun ks ix hk => by
    have hk' : (if ("_law_breaks" : String) = "most_for" ∧ ks = ["number", "name", "template"] then some [2, 1, 0] else none) = some ix := hk
    rw [if_neg (fun e => absurd e.1 (by decide))] at hk'
    cases hk'⟩
theorem k_verdict_of (X : K.In h) (Gn : h.Ns mainGlobals mg) (c : SaysX fa fnX ts ex w K) : ∃ df, tab.find? (fun f => f.name == "verdict_of") = some df ∧ ∃ (qual : Str) (params : Arguments) (body : List Stmt) (scope : Scope) (f : Addr) (fd : FuncData) (N ps : List Str), mg (Str.ofString "verdict_of") = some (.ref f) ∧ PySem.W.keepIn K (.ref f) = true ∧ Binds K fd ps [] ∧ FunD K (Str.ofString "verdict_of") qual params body scope [] [] f fd ∧ FnScope N ps scope ∧ df.np = ps.length ∧ df.nl = N.length ∧
    chkB G ⟨N, scope, scope⟩ df.body body = true ∧ ∀ ks ix, G.kws "verdict_of" ks = some ix → ∀ (s : Shared) (ws rs : List Value), reo ws ix = some rs → ws.length = ks.length → BindsTo s fd ⟨[], (ks.map Str.ofString).zip ws⟩ (ps.zip rs) := by
  obtain ⟨fd, F⟩ := c.t.d.def_ 21 (d := d_verdict_of) rfl
  exact ⟨f_verdict_of, by rfl, "verdict_of", defArgs (top 51), defBody (top 51), defScope (top 51), _, fd, N_verdict_of, p_verdict_of, He.glo_ok X Gn (c.t.d.fact 21 (f := .glo "verdict_of") rfl), F.kp, b_verdict_of F, F, s_verdict_of, by rfl, by rfl, c_verdict_of, fun ks ix hk => by
    have hk' : (if ("verdict_of" : String) = "most_for" ∧ ks = ["number", "name", "template"] then some [2, 1, 0] else none) = some ix := hk
    rw [if_neg (fun e => absurd e.1 (by decide))] at hk'
    cases hk'⟩
theorem k_has_room (X : K.In h) (Gn : h.Ns mainGlobals mg) (c : SaysX fa fnX ts ex w K) : ∃ df, tab.find? (fun f => f.name == "has_room") = some df ∧ ∃ (qual : Str) (params : Arguments) (body : List Stmt) (scope : Scope) (f : Addr) (fd : FuncData) (N ps : List Str), mg (Str.ofString "has_room") = some (.ref f) ∧ PySem.W.keepIn K (.ref f) = true ∧ Binds K fd ps [] ∧ FunD K (Str.ofString "has_room") qual params body scope [] [] f fd ∧ FnScope N ps scope ∧ df.np = ps.length ∧ df.nl = N.length ∧
    chkB G ⟨N, scope, scope⟩ df.body body = true ∧ ∀ ks ix, G.kws "has_room" ks = some ix → ∀ (s : Shared) (ws rs : List Value), reo ws ix = some rs → ws.length = ks.length → BindsTo s fd ⟨[], (ks.map Str.ofString).zip ws⟩ (ps.zip rs) := by
  obtain ⟨fd, F⟩ := c.t.d.def_ 22 (d := d_has_room) rfl
  exact ⟨f_has_room, by rfl, "has_room", defArgs (top 33), defBody (top 33), defScope (top 33), _, fd, N_has_room, p_has_room, He.glo_ok X Gn (c.t.d.fact 22 (f := .glo "has_room") rfl), F.kp, b_has_room F, F, s_has_room, by rfl, by rfl, c_has_room, fun ks ix hk => by
    have hk' : (if ("has_room" : String) = "most_for" ∧ ks = ["number", "name", "template"] then some [2, 1, 0] else none) = some ix := hk
    rw [if_neg (fun e => absurd e.1 (by decide))] at hk'
    cases hk'⟩
theorem k_field_names (X : K.In h) (Gn : h.Ns mainGlobals mg) (c : SaysX fa fnX ts ex w K) : ∃ df, tab.find? (fun f => f.name == "field_names") = some df ∧ ∃ (qual : Str) (params : Arguments) (body : List Stmt) (scope : Scope) (f : Addr) (fd : FuncData) (N ps : List Str), mg (Str.ofString "field_names") = some (.ref f) ∧ PySem.W.keepIn K (.ref f) = true ∧ Binds K fd ps [] ∧ FunD K (Str.ofString "field_names") qual params body scope [] [] f fd ∧ FnScope N ps scope ∧ df.np = ps.length ∧ df.nl = N.length ∧
    chkB G ⟨N, scope, scope⟩ df.body body = true ∧ ∀ ks ix, G.kws "field_names" ks = some ix → ∀ (s : Shared) (ws rs : List Value), reo ws ix = some rs → ws.length = ks.length → BindsTo s fd ⟨[], (ks.map Str.ofString).zip ws⟩ (ps.zip rs) := by
  obtain ⟨fd, F⟩ := c.t.d.def_ 23 (d := d_field_names) rfl
  exact ⟨f_field_names, by rfl, "field_names", defArgs (top 24), defBody (top 24), defScope (top 24), _, fd, N_field_names, p_field_names, He.glo_ok X Gn (c.t.d.fact 23 (f := .glo "field_names") rfl), F.kp, b_field_names F, F, s_field_names, by rfl, by rfl, c_field_names, fun ks ix hk => by
    have hk' : (if ("field_names" : String) = "most_for" ∧ ks = ["number", "name", "template"] then some [2, 1, 0] else none) = some ix := hk
    rw [if_neg (fun e => absurd e.1 (by decide))] at hk'
    cases hk'⟩
theorem k_most_at (X : K.In h) (Gn : h.Ns mainGlobals mg) (c : SaysX fa fnX ts ex w K) : ∃ df, tab.find? (fun f => f.name == "most_at") = some df ∧ ∃ (qual : Str) (params : Arguments) (body : List Stmt) (scope : Scope) (f : Addr) (fd : FuncData) (N ps : List Str), mg (Str.ofString "most_at") = some (.ref f) ∧ PySem.W.keepIn K (.ref f) = true ∧ Binds K fd ps [] ∧ FunD K (Str.ofString "most_at") qual params body scope [] [] f fd ∧ FnScope N ps scope ∧ df.np = ps.length ∧ df.nl = N.length ∧
    chkB G ⟨N, scope, scope⟩ df.body body = true ∧ ∀ ks ix, G.kws "most_at" ks = some ix → ∀ (s : Shared) (ws rs : List Value), reo ws ix = some rs → ws.length = ks.length → BindsTo s fd ⟨[], (ks.map Str.ofString).zip ws⟩ (ps.zip rs) := by
  obtain ⟨fd, F⟩ := c.t.d.def_ 24 (d := d_most_at) rfl
  exact ⟨f_most_at, by rfl, "most_at", defArgs (top 31), defBody (top 31), defScope (top 31), _, fd, N_most_at, p_most_at, He.glo_ok X Gn (c.t.d.fact 24 (f := .glo "most_at") rfl), F.kp, b_most_at F, F, s_most_at, by rfl, by rfl, c_most_at, fun ks ix hk => by
    have hk' : (if ("most_at" : String) = "most_for" ∧ ks = ["number", "name", "template"] then some [2, 1, 0] else none) = some ix := hk
    rw [if_neg (fun e => absurd e.1 (by decide))] at hk'
    cases hk'⟩
theorem k_field_number (X : K.In h) (Gn : h.Ns mainGlobals mg) (c : SaysX fa fnX ts ex w K) : ∃ df, tab.find? (fun f => f.name == "field_number") = some df ∧ ∃ (qual : Str) (params : Arguments) (body : List Stmt) (scope : Scope) (f : Addr) (fd : FuncData) (N ps : List Str), mg (Str.ofString "field_number") = some (.ref f) ∧ PySem.W.keepIn K (.ref f) = true ∧ Binds K fd ps [] ∧ FunD K (Str.ofString "field_number") qual params body scope [] [] f fd ∧ FnScope N ps scope ∧ df.np = ps.length ∧ df.nl = N.length ∧
    chkB G ⟨N, scope, scope⟩ df.body body = true ∧ ∀ ks ix, G.kws "field_number" ks = some ix → ∀ (s : Shared) (ws rs : List Value), reo ws ix = some rs → ws.length = ks.length → BindsTo s fd ⟨[], (ks.map Str.ofString).zip ws⟩ (ps.zip rs) := by
  obtain ⟨fd, F⟩ := c.t.d.def_ 25 (d := d_field_number) rfl
  exact ⟨f_field_number, by rfl, "field_number", defArgs (top 25), defBody (top 25), defScope (top 25), _, fd, N_field_number, p_field_number, He.glo_ok X Gn (c.t.d.fact 25 (f := .glo "field_number") rfl), F.kp, b_field_number F, F, s_field_number, by rfl, by rfl, c_field_number, fun ks ix hk => by
    have hk' : (if ("field_number" : String) = "most_for" ∧ ks = ["number", "name", "template"] then some [2, 1, 0] else none) = some ix := hk
    rw [if_neg (fun e => absurd e.1 (by decide))] at hk'
    cases hk'⟩
theorem k_with_most (X : K.In h) (Gn : h.Ns mainGlobals mg) (c : SaysX fa fnX ts ex w K) : ∃ df, tab.find? (fun f => f.name == "with_most") = some df ∧ ∃ (qual : Str) (params : Arguments) (body : List Stmt) (scope : Scope) (f : Addr) (fd : FuncData) (N ps : List Str), mg (Str.ofString "with_most") = some (.ref f) ∧ PySem.W.keepIn K (.ref f) = true ∧ Binds K fd ps [] ∧ FunD K (Str.ofString "with_most") qual params body scope [] [] f fd ∧ FnScope N ps scope ∧ df.np = ps.length ∧ df.nl = N.length ∧
    chkB G ⟨N, scope, scope⟩ df.body body = true ∧ ∀ ks ix, G.kws "with_most" ks = some ix → ∀ (s : Shared) (ws rs : List Value), reo ws ix = some rs → ws.length = ks.length → BindsTo s fd ⟨[], (ks.map Str.ofString).zip ws⟩ (ps.zip rs) := by
  obtain ⟨fd, F⟩ := c.t.d.def_ 26 (d := d_with_most) rfl
  exact ⟨f_with_most, by rfl, "with_most", defArgs (top 28), defBody (top 28), defScope (top 28), _, fd, N_with_most, p_with_most, He.glo_ok X Gn (c.t.d.fact 26 (f := .glo "with_most") rfl), F.kp, b_with_most F, F, s_with_most, by rfl, by rfl, c_with_most, fun ks ix hk => by
    have hk' : (if ("with_most" : String) = "most_for" ∧ ks = ["number", "name", "template"] then some [2, 1, 0] else none) = some ix := hk
    rw [if_neg (fun e => absurd e.1 (by decide))] at hk'
    cases hk'⟩
theorem k__law_given (X : K.In h) (Gn : h.Ns mainGlobals mg) (c : SaysX fa fnX ts ex w K) : ∃ df, tab.find? (fun f => f.name == "_law_given") = some df ∧ ∃ (qual : Str) (params : Arguments) (body : List Stmt) (scope : Scope) (f : Addr) (fd : FuncData) (N ps : List Str), mg (Str.ofString "_law_given") = some (.ref f) ∧ PySem.W.keepIn K (.ref f) = true ∧ Binds K fd ps [] ∧ FunD K (Str.ofString "_law_given") qual params body scope [] [] f fd ∧ FnScope N ps scope ∧ df.np = ps.length ∧ df.nl = N.length ∧
    chkB G ⟨N, scope, scope⟩ df.body body = true ∧ ∀ ks ix, G.kws "_law_given" ks = some ix → ∀ (s : Shared) (ws rs : List Value), reo ws ix = some rs → ws.length = ks.length → BindsTo s fd ⟨[], (ks.map Str.ofString).zip ws⟩ (ps.zip rs) := by
  obtain ⟨fd, F⟩ := c.t.d.def_ 27 (d := d__law_given) rfl
  exact ⟨f__law_given, by rfl, "_law_given", defArgs (top 54), defBody (top 54), defScope (top 54), _, fd, N__law_given, p__law_given, He.glo_ok X Gn (c.t.d.fact 27 (f := .glo "_law_given") rfl), F.kp, b__law_given F, F, s__law_given, by rfl, by rfl, c__law_given, fun ks ix hk => by
    have hk' : (if ("_law_given" : String) = "most_for" ∧ ks = ["number", "name", "template"] then some [2, 1, 0] else none) = some ix := hk
    rw [if_neg (fun e => absurd e.1 (by decide))] at hk'
    cases hk'⟩
theorem k_texts_length (X : K.In h) (Gn : h.Ns mainGlobals mg) (c : SaysX fa fnX ts ex w K) : ∃ df, tab.find? (fun f => f.name == "texts_length") = some df ∧ ∃ (qual : Str) (params : Arguments) (body : List Stmt) (scope : Scope) (f : Addr) (fd : FuncData) (N ps : List Str), mg (Str.ofString "texts_length") = some (.ref f) ∧ PySem.W.keepIn K (.ref f) = true ∧ Binds K fd ps [] ∧ FunD K (Str.ofString "texts_length") qual params body scope [] [] f fd ∧ FnScope N ps scope ∧ df.np = ps.length ∧ df.nl = N.length ∧
    chkB G ⟨N, scope, scope⟩ df.body body = true ∧ ∀ ks ix, G.kws "texts_length" ks = some ix → ∀ (s : Shared) (ws rs : List Value), reo ws ix = some rs → ws.length = ks.length → BindsTo s fd ⟨[], (ks.map Str.ofString).zip ws⟩ (ps.zip rs) := by
  obtain ⟨fd, F⟩ := c.t.d.def_ 28 (d := d_texts_length) rfl
  exact ⟨f_texts_length, by rfl, "texts_length", defArgs (top 14), defBody (top 14), defScope (top 14), _, fd, N_texts_length, p_texts_length, He.glo_ok X Gn (c.t.d.fact 28 (f := .glo "texts_length") rfl), F.kp, b_texts_length F, F, s_texts_length, by rfl, by rfl, c_texts_length, fun ks ix hk => by
    have hk' : (if ("texts_length" : String) = "most_for" ∧ ks = ["number", "name", "template"] then some [2, 1, 0] else none) = some ix := hk
    rw [if_neg (fun e => absurd e.1 (by decide))] at hk'
    cases hk'⟩
theorem k_long_row (X : K.In h) (Gn : h.Ns mainGlobals mg) (c : SaysX fa fnX ts ex w K) : ∃ df, tab.find? (fun f => f.name == "long_row") = some df ∧ ∃ (qual : Str) (params : Arguments) (body : List Stmt) (scope : Scope) (f : Addr) (fd : FuncData) (N ps : List Str), mg (Str.ofString "long_row") = some (.ref f) ∧ PySem.W.keepIn K (.ref f) = true ∧ Binds K fd ps [] ∧ FunD K (Str.ofString "long_row") qual params body scope [] [] f fd ∧ FnScope N ps scope ∧ df.np = ps.length ∧ df.nl = N.length ∧
    chkB G ⟨N, scope, scope⟩ df.body body = true ∧ ∀ ks ix, G.kws "long_row" ks = some ix → ∀ (s : Shared) (ws rs : List Value), reo ws ix = some rs → ws.length = ks.length → BindsTo s fd ⟨[], (ks.map Str.ofString).zip ws⟩ (ps.zip rs) := by
  obtain ⟨fd, F⟩ := c.t.d.def_ 29 (d := d_long_row) rfl
  exact ⟨f_long_row, by rfl, "long_row", defArgs (top 15), defBody (top 15), defScope (top 15), _, fd, N_long_row, p_long_row, He.glo_ok X Gn (c.t.d.fact 29 (f := .glo "long_row") rfl), F.kp, b_long_row F, F, s_long_row, by rfl, by rfl, c_long_row, fun ks ix hk => by
    have hk' : (if ("long_row" : String) = "most_for" ∧ ks = ["number", "name", "template"] then some [2, 1, 0] else none) = some ix := hk
    rw [if_neg (fun e => absurd e.1 (by decide))] at hk'
    cases hk'⟩
theorem k__law_kind (X : K.In h) (Gn : h.Ns mainGlobals mg) (c : SaysX fa fnX ts ex w K) : ∃ df, tab.find? (fun f => f.name == "_law_kind") = some df ∧ ∃ (qual : Str) (params : Arguments) (body : List Stmt) (scope : Scope) (f : Addr) (fd : FuncData) (N ps : List Str), mg (Str.ofString "_law_kind") = some (.ref f) ∧ PySem.W.keepIn K (.ref f) = true ∧ Binds K fd ps [] ∧ FunD K (Str.ofString "_law_kind") qual params body scope [] [] f fd ∧ FnScope N ps scope ∧ df.np = ps.length ∧ df.nl = N.length ∧
    chkB G ⟨N, scope, scope⟩ df.body body = true ∧ ∀ ks ix, G.kws "_law_kind" ks = some ix → ∀ (s : Shared) (ws rs : List Value), reo ws ix = some rs → ws.length = ks.length → BindsTo s fd ⟨[], (ks.map Str.ofString).zip ws⟩ (ps.zip rs) := by
  obtain ⟨fd, F⟩ := c.t.d.def_ 30 (d := d__law_kind) rfl
  exact ⟨f__law_kind, by rfl, "_law_kind", defArgs (top 56), defBody (top 56), defScope (top 56), _, fd, N__law_kind, p__law_kind, He.glo_ok X Gn (c.t.d.fact 30 (f := .glo "_law_kind") rfl), F.kp, b__law_kind F, F, s__law_kind, by rfl, by rfl, c__law_kind, fun ks ix hk => by
    have hk' : (if ("_law_kind" : String) = "most_for" ∧ ks = ["number", "name", "template"] then some [2, 1, 0] else none) = some ix := hk
    rw [if_neg (fun e => absurd e.1 (by decide))] at hk'
    cases hk'⟩
theorem k_breach_of (X : K.In h) (Gn : h.Ns mainGlobals mg) (c : SaysX fa fnX ts ex w K) : ∃ df, tab.find? (fun f => f.name == "breach_of") = some df ∧ ∃ (qual : Str) (params : Arguments) (body : List Stmt) (scope : Scope) (f : Addr) (fd : FuncData) (N ps : List Str), mg (Str.ofString "breach_of") = some (.ref f) ∧ PySem.W.keepIn K (.ref f) = true ∧ Binds K fd ps [] ∧ FunD K (Str.ofString "breach_of") qual params body scope [] [] f fd ∧ FnScope N ps scope ∧ df.np = ps.length ∧ df.nl = N.length ∧
    chkB G ⟨N, scope, scope⟩ df.body body = true ∧ ∀ ks ix, G.kws "breach_of" ks = some ix → ∀ (s : Shared) (ws rs : List Value), reo ws ix = some rs → ws.length = ks.length → BindsTo s fd ⟨[], (ks.map Str.ofString).zip ws⟩ (ps.zip rs) := by
  obtain ⟨fd, F⟩ := c.t.d.def_ 31 (d := d_breach_of) rfl
  exact ⟨f_breach_of, by rfl, "breach_of", defArgs (top 50), defBody (top 50), defScope (top 50), _, fd, N_breach_of, p_breach_of, He.glo_ok X Gn (c.t.d.fact 31 (f := .glo "breach_of") rfl), F.kp, b_breach_of F, F, s_breach_of, by rfl, by rfl, c_breach_of, fun ks ix hk => by
    have hk' : (if ("breach_of" : String) = "most_for" ∧ ks = ["number", "name", "template"] then some [2, 1, 0] else none) = some ix := hk
    rw [if_neg (fun e => absurd e.1 (by decide))] at hk'
    cases hk'⟩
theorem k_with_length (X : K.In h) (Gn : h.Ns mainGlobals mg) (c : SaysX fa fnX ts ex w K) : ∃ df, tab.find? (fun f => f.name == "with_length") = some df ∧ ∃ (qual : Str) (params : Arguments) (body : List Stmt) (scope : Scope) (f : Addr) (fd : FuncData) (N ps : List Str), mg (Str.ofString "with_length") = some (.ref f) ∧ PySem.W.keepIn K (.ref f) = true ∧ Binds K fd ps [] ∧ FunD K (Str.ofString "with_length") qual params body scope [] [] f fd ∧ FnScope N ps scope ∧ df.np = ps.length ∧ df.nl = N.length ∧
    chkB G ⟨N, scope, scope⟩ df.body body = true ∧ ∀ ks ix, G.kws "with_length" ks = some ix → ∀ (s : Shared) (ws rs : List Value), reo ws ix = some rs → ws.length = ks.length → BindsTo s fd ⟨[], (ks.map Str.ofString).zip ws⟩ (ps.zip rs) := by
  obtain ⟨fd, F⟩ := c.t.d.def_ 32 (d := d_with_length) rfl
  exact ⟨f_with_length, by rfl, "with_length", defArgs (top 30), defBody (top 30), defScope (top 30), _, fd, N_with_length, p_with_length, He.glo_ok X Gn (c.t.d.fact 32 (f := .glo "with_length") rfl), F.kp, b_with_length F, F, s_with_length, by rfl, by rfl, c_with_length, fun ks ix hk => by
    have hk' : (if ("with_length" : String) = "most_for" ∧ ks = ["number", "name", "template"] then some [2, 1, 0] else none) = some ix := hk
    rw [if_neg (fun e => absurd e.1 (by decide))] at hk'
    cases hk'⟩
theorem k_with_field (X : K.In h) (Gn : h.Ns mainGlobals mg) (c : SaysX fa fnX ts ex w K) : ∃ df, tab.find? (fun f => f.name == "with_field") = some df ∧ ∃ (qual : Str) (params : Arguments) (body : List Stmt) (scope : Scope) (f : Addr) (fd : FuncData) (N ps : List Str), mg (Str.ofString "with_field") = some (.ref f) ∧ PySem.W.keepIn K (.ref f) = true ∧ Binds K fd ps [] ∧ FunD K (Str.ofString "with_field") qual params body scope [] [] f fd ∧ FnScope N ps scope ∧ df.np = ps.length ∧ df.nl = N.length ∧
    chkB G ⟨N, scope, scope⟩ df.body body = true ∧ ∀ ks ix, G.kws "with_field" ks = some ix → ∀ (s : Shared) (ws rs : List Value), reo ws ix = some rs → ws.length = ks.length → BindsTo s fd ⟨[], (ks.map Str.ofString).zip ws⟩ (ps.zip rs) := by
  obtain ⟨fd, F⟩ := c.t.d.def_ 33 (d := d_with_field) rfl
  exact ⟨f_with_field, by rfl, "with_field", defArgs (top 27), defBody (top 27), defScope (top 27), _, fd, N_with_field, p_with_field, He.glo_ok X Gn (c.t.d.fact 33 (f := .glo "with_field") rfl), F.kp, b_with_field F, F, s_with_field, by rfl, by rfl, c_with_field, fun ks ix hk => by
    have hk' : (if ("with_field" : String) = "most_for" ∧ ks = ["number", "name", "template"] then some [2, 1, 0] else none) = some ix := hk
    rw [if_neg (fun e => absurd e.1 (by decide))] at hk'
    cases hk'⟩
theorem k__law_fields (X : K.In h) (Gn : h.Ns mainGlobals mg) (c : SaysX fa fnX ts ex w K) : ∃ df, tab.find? (fun f => f.name == "_law_fields") = some df ∧ ∃ (qual : Str) (params : Arguments) (body : List Stmt) (scope : Scope) (f : Addr) (fd : FuncData) (N ps : List Str), mg (Str.ofString "_law_fields") = some (.ref f) ∧ PySem.W.keepIn K (.ref f) = true ∧ Binds K fd ps [] ∧ FunD K (Str.ofString "_law_fields") qual params body scope [] [] f fd ∧ FnScope N ps scope ∧ df.np = ps.length ∧ df.nl = N.length ∧
    chkB G ⟨N, scope, scope⟩ df.body body = true ∧ ∀ ks ix, G.kws "_law_fields" ks = some ix → ∀ (s : Shared) (ws rs : List Value), reo ws ix = some rs → ws.length = ks.length → BindsTo s fd ⟨[], (ks.map Str.ofString).zip ws⟩ (ps.zip rs) := by
  obtain ⟨fd, F⟩ := c.t.d.def_ 34 (d := d__law_fields) rfl
  exact ⟨f__law_fields, by rfl, "_law_fields", defArgs (top 53), defBody (top 53), defScope (top 53), _, fd, N__law_fields, p__law_fields, He.glo_ok X Gn (c.t.d.fact 34 (f := .glo "_law_fields") rfl), F.kp, b__law_fields F, F, s__law_fields, by rfl, by rfl, c__law_fields, fun ks ix hk => by
    have hk' : (if ("_law_fields" : String) = "most_for" ∧ ks = ["number", "name", "template"] then some [2, 1, 0] else none) = some ix := hk
    rw [if_neg (fun e => absurd e.1 (by decide))] at hk'
    cases hk'⟩
theorem k_ahead_text (X : K.In h) (Gn : h.Ns mainGlobals mg) (c : SaysX fa fnX ts ex w K) : ∃ df, tab.find? (fun f => f.name == "ahead_text") = some df ∧ ∃ (qual : Str) (params : Arguments) (body : List Stmt) (scope : Scope) (f : Addr) (fd : FuncData) (N ps : List Str), mg (Str.ofString "ahead_text") = some (.ref f) ∧ PySem.W.keepIn K (.ref f) = true ∧ Binds K fd ps [] ∧ FunD K (Str.ofString "ahead_text") qual params body scope [] [] f fd ∧ FnScope N ps scope ∧ df.np = ps.length ∧ df.nl = N.length ∧
    chkB G ⟨N, scope, scope⟩ df.body body = true ∧ ∀ ks ix, G.kws "ahead_text" ks = some ix → ∀ (s : Shared) (ws rs : List Value), reo ws ix = some rs → ws.length = ks.length → BindsTo s fd ⟨[], (ks.map Str.ofString).zip ws⟩ (ps.zip rs) := by
  obtain ⟨fd, F⟩ := c.t.d.def_ 35 (d := d_ahead_text) rfl
  exact ⟨f_ahead_text, by rfl, "ahead_text", defArgs (top 10), defBody (top 10), defScope (top 10), _, fd, N_ahead_text, p_ahead_text, He.glo_ok X Gn (c.t.d.fact 35 (f := .glo "ahead_text") rfl), F.kp, b_ahead_text F, F, s_ahead_text, by rfl, by rfl, c_ahead_text, fun ks ix hk => by
    have hk' : (if ("ahead_text" : String) = "most_for" ∧ ks = ["number", "name", "template"] then some [2, 1, 0] else none) = some ix := hk
    rw [if_neg (fun e => absurd e.1 (by decide))] at hk'
    cases hk'⟩
theorem k_behind_text (X : K.In h) (Gn : h.Ns mainGlobals mg) (c : SaysX fa fnX ts ex w K) : ∃ df, tab.find? (fun f => f.name == "behind_text") = some df ∧ ∃ (qual : Str) (params : Arguments) (body : List Stmt) (scope : Scope) (f : Addr) (fd : FuncData) (N ps : List Str), mg (Str.ofString "behind_text") = some (.ref f) ∧ PySem.W.keepIn K (.ref f) = true ∧ Binds K fd ps [] ∧ FunD K (Str.ofString "behind_text") qual params body scope [] [] f fd ∧ FnScope N ps scope ∧ df.np = ps.length ∧ df.nl = N.length ∧
    chkB G ⟨N, scope, scope⟩ df.body body = true ∧ ∀ ks ix, G.kws "behind_text" ks = some ix → ∀ (s : Shared) (ws rs : List Value), reo ws ix = some rs → ws.length = ks.length → BindsTo s fd ⟨[], (ks.map Str.ofString).zip ws⟩ (ps.zip rs) := by
  obtain ⟨fd, F⟩ := c.t.d.def_ 36 (d := d_behind_text) rfl
  exact ⟨f_behind_text, by rfl, "behind_text", defArgs (top 11), defBody (top 11), defScope (top 11), _, fd, N_behind_text, p_behind_text, He.glo_ok X Gn (c.t.d.fact 36 (f := .glo "behind_text") rfl), F.kp, b_behind_text F, F, s_behind_text, by rfl, by rfl, c_behind_text, fun ks ix hk => by
    have hk' : (if ("behind_text" : String) = "most_for" ∧ ks = ["number", "name", "template"] then some [2, 1, 0] else none) = some ix := hk
    rw [if_neg (fun e => absurd e.1 (by decide))] at hk'
    cases hk'⟩
theorem k_longest_record (X : K.In h) (Gn : h.Ns mainGlobals mg) (c : SaysX fa fnX ts ex w K) : ∃ df, tab.find? (fun f => f.name == "longest_record") = some df ∧ ∃ (qual : Str) (params : Arguments) (body : List Stmt) (scope : Scope) (f : Addr) (fd : FuncData) (N ps : List Str), mg (Str.ofString "longest_record") = some (.ref f) ∧ PySem.W.keepIn K (.ref f) = true ∧ Binds K fd ps [] ∧ FunD K (Str.ofString "longest_record") qual params body scope [] [] f fd ∧ FnScope N ps scope ∧ df.np = ps.length ∧ df.nl = N.length ∧
    chkB G ⟨N, scope, scope⟩ df.body body = true ∧ ∀ ks ix, G.kws "longest_record" ks = some ix → ∀ (s : Shared) (ws rs : List Value), reo ws ix = some rs → ws.length = ks.length → BindsTo s fd ⟨[], (ks.map Str.ofString).zip ws⟩ (ps.zip rs) := by
  obtain ⟨fd, F⟩ := c.t.d.def_ 37 (d := d_longest_record) rfl
  exact ⟨f_longest_record, by rfl, "longest_record", defArgs (top 20), defBody (top 20), defScope (top 20), _, fd, N_longest_record, p_longest_record, He.glo_ok X Gn (c.t.d.fact 37 (f := .glo "longest_record") rfl), F.kp, b_longest_record F, F, s_longest_record, by rfl, by rfl, c_longest_record, fun ks ix hk => by
    have hk' : (if ("longest_record" : String) = "most_for" ∧ ks = ["number", "name", "template"] then some [2, 1, 0] else none) = some ix := hk
    rw [if_neg (fun e => absurd e.1 (by decide))] at hk'
    cases hk'⟩
theorem k_record_by (X : K.In h) (Gn : h.Ns mainGlobals mg) (c : SaysX fa fnX ts ex w K) : ∃ df, tab.find? (fun f => f.name == "record_by") = some df ∧ ∃ (qual : Str) (params : Arguments) (body : List Stmt) (scope : Scope) (f : Addr) (fd : FuncData) (N ps : List Str), mg (Str.ofString "record_by") = some (.ref f) ∧ PySem.W.keepIn K (.ref f) = true ∧ Binds K fd ps [] ∧ FunD K (Str.ofString "record_by") qual params body scope [] [] f fd ∧ FnScope N ps scope ∧ df.np = ps.length ∧ df.nl = N.length ∧
    chkB G ⟨N, scope, scope⟩ df.body body = true ∧ ∀ ks ix, G.kws "record_by" ks = some ix → ∀ (s : Shared) (ws rs : List Value), reo ws ix = some rs → ws.length = ks.length → BindsTo s fd ⟨[], (ks.map Str.ofString).zip ws⟩ (ps.zip rs) := by
  obtain ⟨fd, F⟩ := c.t.d.def_ 38 (d := d_record_by) rfl
  exact ⟨f_record_by, by rfl, "record_by", defArgs (top 19), defBody (top 19), defScope (top 19), _, fd, N_record_by, p_record_by, He.glo_ok X Gn (c.t.d.fact 38 (f := .glo "record_by") rfl), F.kp, b_record_by F, F, s_record_by, by rfl, by rfl, c_record_by, fun ks ix hk => by
    have hk' : (if ("record_by" : String) = "most_for" ∧ ks = ["number", "name", "template"] then some [2, 1, 0] else none) = some ix := hk
    rw [if_neg (fun e => absurd e.1 (by decide))] at hk'
    cases hk'⟩
end
end K87
end Ev
set_option maxHeartbeats 0
/-! K87d: the statics of k87. -/
namespace Ev
namespace K87
open PySem PySem.Spec PyProof.Rows L2
section
variable {P : Program} {w : PySem.World} {K : PySem.W.Frag} {mg : Str → Option Value} {h base : Heap}
theorem ex_parts (e : ex K = true) : gdT K (He.ga K "VALUE_SIGN") sgn = true ∧ oexB K (He.ga K "BadStep") = true ∧ xfB K (He.ga K "BadStep") = true ∧ PySem.W.findIn K (.ref (He.ga K "BadStep")) "__init__" = some (some (.ref (He.ma K (He.ga K "BadStep") "__init__"))) ∧
    PySem.W.typeIn K (.ref (He.ma K (He.ga K "BadStep") "__init__")) = some (.type "function") ∧ PySem.W.findIn K (.ref (He.ga K "BadStep")) "word" = some none ∧ PySem.W.exmOne K (.ref (He.ga K "BadStep")) (.ref (He.ga K "BadStep")) = some true := by
  unfold ex at e
  simp only [Bool.and_eq_true, decide_eq_true_eq] at e
  exact e
theorem err_ok (X : K.In h) (Gn : h.Ns mainGlobals mg) (c : SaysX fa fnX ts ex w K) : ErrOk P w K mg base "BadStep" ["word"] := by
  obtain ⟨e1, e2, e3, e4, e5, e6, e7⟩ := ex_parts c.x
  obtain ⟨fd, F⟩ := c.t.d.def_ 39 (d := d_ini) rfl
  exact err1 F ⟨by rfl, by rfl, by rfl, by decide +kernel, by rfl, by decide +kernel, by decide +kernel⟩ (by decide +kernel) (by decide +kernel) (by decide +kernel) (by decide +kernel) (by decide +kernel) (He.glo_ok X Gn (c.t.d.fact 39 (f := .glo "BadStep") rfl)) e2 e3 e4 e5 e6
    (F.bindsN fun _ _ _ _ _ _ us hl => match us, hl with | [_, _], _ => rfl)
theorem st_ok (X : K.In h) (Gn : h.Ns mainGlobals mg) (c : SaysX fa fnX ts ex w K) : StOk P w K mg base G tab where
  fn := fun x hx => by
    have hx' : x ∈ fns := hx
    simp only [fns, List.mem_cons, List.not_mem_nil, or_false] at hx'
    rcases hx' with rfl | rfl | rfl | rfl | rfl | rfl | rfl | rfl | rfl | rfl | rfl | rfl | rfl | rfl | rfl | rfl | rfl | rfl | rfl | rfl | rfl | rfl | rfl | rfl | rfl | rfl | rfl | rfl | rfl | rfl | rfl | rfl | rfl | rfl | rfl | rfl | rfl | rfl | rfl
    · exact k_law X Gn c
    · exact k__law_jar X Gn c
    · exact k__law_draw X Gn c
    · exact k__law_template X Gn c
    · exact k__law_text X Gn c
    · exact k__law_moved X Gn c
    · exact k__law_rows X Gn c
    · exact k__law_longest X Gn c
    · exact k__law_same X Gn c
    · exact k_longest X Gn c
    · exact k__law_asked X Gn c
    · exact k__law_most X Gn c
    · exact k_room_for X Gn c
    · exact k_most_for X Gn c
    · exact k__law_refused X Gn c
    · exact k__law_changed X Gn c
    · exact k__law_part X Gn c
    · exact k__law_put X Gn c
    · exact k__law_great X Gn c
    · exact k_best_of X Gn c
    · exact k__law_breaks X Gn c
    · exact k_verdict_of X Gn c
    · exact k_has_room X Gn c
    · exact k_field_names X Gn c
    · exact k_most_at X Gn c
    · exact k_field_number X Gn c
    · exact k_with_most X Gn c
    · exact k__law_given X Gn c
    · exact k_texts_length X Gn c
    · exact k_long_row X Gn c
    · exact k__law_kind X Gn c
    · exact k_breach_of X Gn c
    · exact k_with_length X Gn c
    · exact k_with_field X Gn c
    · exact k__law_fields X Gn c
    · exact k_ahead_text X Gn c
    · exact k_behind_text X Gn c
    · exact k_longest_record X Gn c
    · exact k_record_by X Gn c
  gl := fun x d hd => by
    have hd' : (if x = "VALUE_MOST" then some (D.int 40) else if x = "KEPT" then some (.str [107, 101, 112, 116]) else if x = "BROKEN" then some (.str [98, 114, 111, 107, 101, 110]) else none) = some d := hd
    by_cases h1 : x = "VALUE_MOST"
    · rw [if_pos h1] at hd'; cases hd'; subst h1
      obtain ⟨t, e⟩ := He.int_ok X Gn (c.t.d.fact 41 (f := .int "VALUE_MOST" 40) rfl)
      exact ⟨_, .int 40, e, ⟨t, rfl⟩, fun _ _ _ => .int 40⟩
    · rw [if_neg h1] at hd'
      by_cases h2 : x = "KEPT"
      · rw [if_pos h2] at hd'; cases hd'; subst h2
        obtain ⟨t, e⟩ := He.str_ok X Gn (c.t.d.fact 42 (f := .str "KEPT" "kept") rfl)
        exact ⟨_, .str (Str.ofString "kept"), e, ⟨t, rfl⟩, fun _ _ _ => by
          have e : Str.ofString "kept" = (⟨[107, 101, 112, 116].toArray⟩ : Str) := by decide +kernel
          rw [e]; exact .str _⟩
      · rw [if_neg h2] at hd'
        by_cases h3 : x = "BROKEN"
        · rw [if_pos h3] at hd'; cases hd'; subst h3
          obtain ⟨t, e⟩ := He.str_ok X Gn (c.t.d.fact 43 (f := .str "BROKEN" "broken") rfl)
          exact ⟨_, .str (Str.ofString "broken"), e, ⟨t, rfl⟩, fun _ _ _ => by
            have e : Str.ofString "broken" = (⟨[98, 114, 111, 107, 101, 110].toArray⟩ : Str) := by decide +kernel
            rw [e]; exact .str _⟩
        · rw [if_neg h3] at hd'; cases hd'
  gd := fun x ks vs hk => by
    have hk' : (if x = "VALUE_SIGN" then some (sgn.map (fun q => D.str q.1), sgn.map (fun q => D.str q.2)) else none) = some (ks, vs) := hk
    by_cases h1 : x = "VALUE_SIGN"
    · rw [if_pos h1] at hk'
      cases hk'
      subst h1
      obtain ⟨es, n, hK⟩ := c.t.tab 0 (t := (fun K => He.ga K "VALUE_SIGN", ["letters", "digits", "signs"])) rfl
      refine ⟨fun k hk => ?_, He.ga K "VALUE_SIGN", es, n, He.glo_ok X Gn (c.t.d.fact 40 (f := .glo "VALUE_SIGN") rfl), hK, fun t => gdT_ok (ex_parts c.x).1 t⟩
      obtain ⟨q, _, rfl⟩ := List.mem_map.mp hk
      exact ⟨_, rfl⟩
    · rw [if_neg h1] at hk'; cases hk'
  bl := fun x hx => by
    simp only [bltNames, List.mem_cons, List.not_mem_nil, or_false] at hx
    rcases hx with rfl | rfl | rfl | rfl | rfl | rfl | rfl | rfl | rfl | rfl | rfl | rfl | rfl | rfl | rfl | rfl | rfl | rfl | rfl | rfl
    · exact He.free_ok X Gn (c.t.d.fact 44 (f := .free "len") rfl)
    · exact He.free_ok X Gn (c.t.d.fact 45 (f := .free "tuple") rfl)
    · exact He.free_ok X Gn (c.t.d.fact 46 (f := .free "list") rfl)
    · exact He.free_ok X Gn (c.t.d.fact 47 (f := .free "sum") rfl)
    · exact He.free_ok X Gn (c.t.d.fact 48 (f := .free "max") rfl)
    · exact He.free_ok X Gn (c.t.d.fact 49 (f := .free "min") rfl)
    · exact He.free_ok X Gn (c.t.d.fact 50 (f := .free "any") rfl)
    · exact He.free_ok X Gn (c.t.d.fact 51 (f := .free "all") rfl)
    · exact He.free_ok X Gn (c.t.d.fact 52 (f := .free "int") rfl)
    · exact He.free_ok X Gn (c.t.d.fact 53 (f := .free "str") rfl)
    · exact He.free_ok X Gn (c.t.d.fact 54 (f := .free "sorted") rfl)
    · exact He.free_ok X Gn (c.t.d.fact 55 (f := .free "dict") rfl)
    · exact He.free_ok X Gn (c.t.d.fact 56 (f := .free "abs") rfl)
    · exact He.free_ok X Gn (c.t.d.fact 57 (f := .free "range") rfl)
    · exact He.free_ok X Gn (c.t.d.fact 58 (f := .free "enumerate") rfl)
    · exact He.free_ok X Gn (c.t.d.fact 59 (f := .free "zip") rfl)
    · exact He.free_ok X Gn (c.t.d.fact 60 (f := .free "reversed") rfl)
    · exact He.free_ok X Gn (c.t.d.fact 61 (f := .free "isinstance") rfl)
    · exact He.free_ok X Gn (c.t.d.fact 62 (f := .free "set") rfl)
    · exact He.free_ok X Gn (c.t.d.fact 63 (f := .free "bool") rfl)
  er := fun e he => by
    have he' : (if e = "BadStep" then ["word"] else []) ≠ [] := he
    by_cases h1 : e = "BadStep"
    · subst h1; exact err_ok X Gn c
    · rw [if_neg h1] at he'; exact absurd rfl he'
  sb := fun a b C D ha hb hC hD => by
    have ha' : (if a = "BadStep" then ["word"] else []) ≠ [] := ha
    have hb' : (if b = "BadStep" then ["word"] else []) ≠ [] := hb
    by_cases h1 : a = "BadStep"
    · by_cases h2 : b = "BadStep"
      · subst h1 h2
        have g := He.glo_ok X Gn (c.t.d.fact 39 (f := .glo "BadStep") rfl)
        have e1 : some (Value.ref C) = some (.ref (He.ga K "BadStep")) := hC.symm.trans g
        have e2 : some (Value.ref D) = some (.ref (He.ga K "BadStep")) := hD.symm.trans g
        cases e1; cases e2
        exact (ex_parts c.x).2.2.2.2.2.2
      · rw [if_neg h2] at hb'; exact absurd rfl hb'
    · rw [if_neg h1] at ha'; exact absurd rfl ha'
end
end K87
end Ev
set_option maxHeartbeats 0
/-! K87e: the head of k87 and its end. -/
namespace Ev
open PySem PySem.Spec PyProof.Rows L2
theorem fn_cx0 {P : Program} {w : PySem.World} {K : PySem.W.Frag} {mg : Str → Option Value} {base : Heap} {k : Nat} {f : Addr} {fd : FuncData} {ps : List Str} {sp : Sp} (F : FnOk P w K mg base (L2.CX P w) k f fd ps sp) : FnOk P w K mg base CX0 k f fd ps (fun vs H Q _ => sp vs H Q fun _ _ _ => False) :=
  ⟨fun vs H Q _ h => F.len vs H Q _ h, fun A outer s H args us vs Q E hr e0 hb hv h => codeAny_mono (F.run A outer s H args us vs Q (fun _ _ _ => False) hr e0 hb hv h) fun r s' hq => by
    cases r with
    | error e => obtain ⟨a, B, H', cls, d, _, _, _, _, _, _, _, z⟩ := hq; exact z.elim
    | ok fl => cases fl <;> exact hq⟩
namespace K87
abbrev R : PySem.W.OpenRow := PySem.W.OpenLaw.row PySem.Challenge.rw_threegiven_k87_whole_room_greatest_lengt
abbrev hk : PySem.W.Hook := hookX 4 fa fnX ts ex
def ob (s : PySem.W.SharedT) : AlX := obsXG 4 fa fnX ts ex (HandSHeadRun.getT s)
theorem ob_eq (s : PySem.W.SharedT) : ob s = hk.obs s.abs := obsXG_eq (HandSHeadRun.getT_eq s)
def loose : List Str := (["ThreeError", "CallError", "BadStep", "parts_in", "all_rows", "fields_of", "field_range", "ahead_text", "behind_text", "VALUE_SIGN", "texts_length", "long_row", "best_of", "longest", "shortest", "record_by", "longest_record", "shortest_record", "VALUE_MOST", "field_names", "field_number", "with_field", "with_most", "with_length", "most_at", "most_for", "has_room", "room_for", "given_list"] : List Str) ++ (["is_given", "given_of", "row_pieces", "inner_pieces", "all_pieces", "line_of", "few_names", "KEPT", "BROKEN", "keeps", "few_records", "breach_of", "verdict_of", "_law_fields", "_law_given", "_law_put", "_law_kind", "_law_same", "_law_jar", "_law_draw", "_law_text", "_law_part", "_law_template", "_law_rows", "_law_great", "_law_longest", "_law_most", "_law_changed", "_law_breaks", "_law_refused"] : List Str) ++ (["_law_asked", "_law_moved"] : List Str)
theorem run_f (w : PySem.World) : HandSHeadRun.RunEq R (PySem.W.view R.prog [72]) hk ob 3000 loose (w.withFollow "special-get-raises" false) := by
  intro os
  kernel_rfl
theorem run_t (w : PySem.World) : HandSHeadRun.RunEq R (PySem.W.view R.prog [72]) hk ob 3000 loose (w.withFollow "special-get-raises" true) := by
  intro os
  kernel_rfl
theorem run (w : PySem.World) : HandSHeadRun.RunEq R (PySem.W.view R.prog [72]) hk ob 3000 loose w :=
  PySem.W.byRow2 "special-get-raises" (P := fun w => HandSHeadRun.RunEq R (PySem.W.view R.prog [72]) hk ob 3000 loose w) run_f run_t w
end K87
end Ev
/-! Sy: equations of the evaluator for simp: named branches, nothing worked out ahead of its turn. -/
namespace Ev
open PySem L2
noncomputable section
theorem fin_tk (d : D) (S : Sto) : fin true (.ok d S) = ofO S ((truD S d).map .bl) := by rw [fin_t]; rfl
theorem fin_tx (c : String) (fs : List (String × D)) (S : Sto) : fin true (.exc c fs S) = .exc c fs S := by rw [fin_t]; rfl
def varO (S : Sto) : Option (Option D) → Res D
  | some (some d) => .ok d S
  | _ => .bad
theorem varO_s (S : Sto) (d : D) : varO S (some (some d)) = .ok d S := rfl
/-- a slot set -/
def setL : Nat → D → Loc → Option Loc
  | 0, d, _ :: ls => some (some d :: ls)
  | n + 1, d, o :: ls => (match setL n d ls with
    | some l => some (o :: l)
    | none => none)
  | _, _, [] => none
theorem setL_eq : ∀ (i : Nat) (d : D) (ls : Loc), (if i < ls.length then some (ls.set i (some d)) else none) = setL i d ls
  | 0, d, [] => rfl
  | 0, d, _ :: ls => rfl
  | n + 1, d, [] => rfl
  | n + 1, d, o :: ls => by
    rw [setL, ← setL_eq n d ls]
    by_cases h : n < ls.length
    · rw [if_pos h, if_pos (by simpa using h)]; rfl
    · rw [if_neg h, if_neg (by simpa using h)]
def consO (o : Option D) : Option Loc → Option Loc
  | some l => some (o :: l)
  | none => none
theorem consO_s (o : Option D) (l : Loc) : consO o (some l) = some (o :: l) := rfl
theorem setL_0 (d : D) (o : Option D) (ls : Loc) : setL 0 d (o :: ls) = some (some d :: ls) := rfl
theorem setL_s (n : Nat) (d : D) (o : Option D) (ls : Loc) : setL (n + 1) d (o :: ls) = consO o (setL n d ls) := by rw [setL]; rfl
theorem asg_one (i : Nat) (d : D) (ls : Loc) : asg (.one i) d ls = setL i d ls := by rw [asg, setL_eq]
theorem asg_tup (ts : Tgs) (xs : List D) (ls : Loc) : asg (.tup ts) (.tup xs) ls = asgs ts xs ls := by rw [asg]
theorem asgs_nil (ls : Loc) : asgs .nil [] ls = some ls := by rw [asgs]
def asgsK (ts : Tgs) (xs : List D) : Option Loc → Option Loc
  | some l => asgs ts xs l
  | none => none
theorem asgsK_s (ts : Tgs) (xs : List D) (l : Loc) : asgsK ts xs (some l) = asgs ts xs l := rfl
theorem asgs_cons (t : Tg) (ts : Tgs) (x : D) (xs : List D) (ls : Loc) : asgs (.cons t ts) (x :: xs) ls = asgsK ts xs (asg t x ls) := by rw [asgs]; cases asg t x ls <;> rfl
def setK (i : Nat) (d : D) : Option Loc → Option Loc
  | some l => setL i d l
  | none => none
theorem setK_s (i : Nat) (d : D) (l : Loc) : setK i d (some l) = setL i d l := rfl
theorem setAll_nil (ls : Loc) : setAll [] [] ls = some ls := rfl
theorem setAll_cons (i : Nat) (is : List Nat) (d : D) (ds : List D) (ls : Loc) : setAll (i :: is) (d :: ds) ls = setK i d (setAll is ds ls) := by
  rw [setAll]
  cases setAll is ds ls with
  | none => rfl
  | some l => exact setL_eq i d l
def wipeN : Nat → Loc → Loc
  | 0, _ :: ls => none :: ls
  | n + 1, o :: ls => o :: wipeN n ls
  | _, [] => []
theorem wipeN_eq : ∀ (i : Nat) (ls : Loc), ls.set i none = wipeN i ls
  | 0, [] => rfl
  | 0, _ :: ls => rfl
  | n + 1, [] => rfl
  | n + 1, o :: ls => by rw [wipeN, ← wipeN_eq n ls]; rfl
theorem wipeN_0 (o : Option D) (ls : Loc) : wipeN 0 (o :: ls) = none :: ls := rfl
theorem wipeN_s (n : Nat) (o : Option D) (ls : Loc) : wipeN (n + 1) (o :: ls) = o :: wipeN n ls := rfl
theorem wipe_nil (ls : Loc) : wipeL ls [] = ls := rfl
theorem wipe_cons (ls : Loc) (v : Nat) (vs : List Nat) : wipeL ls (v :: vs) = wipeN v (wipeL ls vs) := by rw [wipeL, wipeN_eq]
def mkTup (ds : List D) (S : Sto) : Res D := if ds.length ≤ 16777216 then .ok (.tup ds) S else .bad
def mkLst (ds : List D) (S : Sto) : Res D := if ds.length ≤ 16777216 then .ok (.lst ds) S else .bad
theorem mkTup_ok {ds : List D} {S : Sto} (h : ds.length ≤ 16777216) : mkTup ds S = .ok (.tup ds) S := if_pos h
theorem mkLst_ok {ds : List D} {S : Sto} (h : ds.length ≤ 16777216) : mkLst ds S = .ok (.lst ds) S := if_pos h
def mkDic (ks : List D) (ds : List D) (S : Sto) : Res D := if ds.length = ks.length ∧ ks.length ≤ 15 then .ok (.dic ks ds) S else .bad
theorem mkDic_ok {ks ds : List D} {S : Sto} (h : ds.length = ks.length ∧ ks.length ≤ 15) : mkDic ks ds S = .ok (.dic ks ds) S := if_pos h
def mkLive (d : D) (S : Sto) : Res D := match d with
  | .lst xs => .ok (.loc S.length) (S ++ [.lst xs])
  | _ => .bad
theorem mkLive_l (xs : List D) (S : Sto) : mkLive (.lst xs) S = .ok (.loc S.length) (S ++ [.lst xs]) := rfl
def negD (d : D) (S : Sto) : Res D := match d with
  | .int i => .ok (.int (-i)) S
  | _ => .bad
theorem negD_i (i : Int) (S : Sto) : negD (.int i) S = .ok (.int (-i)) S := rfl
def notD (d : D) (S : Sto) : Res D := match d with
  | .bl b => .ok (.bl (!b)) S
  | _ => .bad
theorem notD_b (b : Bool) (S : Sto) : notD (.bl b) S = .ok (.bl (!b)) S := rfl
def revD (S : Sto) (x : D) : Res D := match x with
  | .lst xs => .ok (.lst xs.reverse) S
  | _ => .bad
theorem revD_l (S : Sto) (xs : List D) : revD S (.lst xs) = .ok (.lst xs.reverse) S := rfl
def kwA (cal : String → List D → Sto → Res D) (f : String) (S : Sto) : Option (List D) → Res D
  | some as => cal f as S
  | none => .bad
theorem kwA_s (cal : String → List D → Sto → Res D) (f : String) (S : Sto) (as : List D) : kwA cal f S (some as) = cal f as S := rfl
def kwD (cal : String → List D → Sto → Res D) (f : String) (ds : List D) (S : Sto) : Option (List Nat) → Res D
  | some ix => kwA cal f S (reo ds ix)
  | none => .bad
theorem kwD_s (cal : String → List D → Sto → Res D) (f : String) (ds : List D) (S : Sto) (ix : List Nat) : kwD cal f ds S (some ix) = kwA cal f S (reo ds ix) := rfl
def addA (acc : List D) (y : D) (S : Sto) : Res (List D) := if acc.length < 16777216 then .ok (acc ++ [y]) S else .bad
theorem addA_ok {acc : List D} {y : D} {S : Sto} (h : acc.length < 16777216) : addA acc y S = .ok (acc ++ [y]) S := if_pos h
def gixO (S : Sto) (y : D) : Option (List D × List D) → Res D
  | some p => ofO S (look p.1 p.2 y)
  | none => .bad
theorem gixO_s (S : Sto) (y : D) (p : List D × List D) : gixO S y (some p) = ofO S (look p.1 p.2 y) := rfl
def asI (d : D) (S : Sto) : Res (Option Int) := match d with
  | .int i => .ok (some i) S
  | _ => .bad
theorem asI_i (i : Int) (S : Sto) : asI (.int i) S = .ok (some i) S := rfl
def rng1D (d : D) (S : Sto) : Res Wk := match d with
  | .int j => if rngOk j then .ok (rngL 0 j.toNat, []) S else .bad
  | _ => .bad
theorem rngOk_ok {j : Int} (h : -4611686018427387904 ≤ j ∧ j < 4611686018427387904) : rngOk j = true := by unfold rngOk; simp [h.1, h.2]
theorem rng1D_ok {j : Int} {S : Sto} (h : -4611686018427387904 ≤ j ∧ j < 4611686018427387904) : rng1D (.int j) S = .ok (rngL 0 j.toNat, []) S := by show (if _ then _ else _) = _; rw [rngOk_ok h]; rfl
def rng2D (d e : D) (S : Sto) : Res Wk := match d, e with
  | .int i, .int j => if rngOk i && rngOk j then .ok (rngL i (j - i).toNat, []) S else .bad
  | _, _ => .bad
theorem rng2D_ok {i j : Int} {S : Sto} (h : -4611686018427387904 ≤ i ∧ i < 4611686018427387904) (h' : -4611686018427387904 ≤ j ∧ j < 4611686018427387904) : rng2D (.int i) (.int j) S = .ok (rngL i (j - i).toNat, []) S := by show (if _ then _ else _) = _; rw [rngOk_ok h, rngOk_ok h']; rfl
def putO (ls : Loc) : Option Sto → SR
  | some S4 => .nx ls S4
  | none => .bad
theorem putO_s (ls : Loc) (S : Sto) : putO ls (some S) = .nx ls S := rfl
def raiO (c : String) (fl : List String) (ls : Loc) (ds : List D) (S : Sto) : SR := if ds.length = fl.length ∧ ds.length ≤ 2 ∧ 0 < ds.length then .exc c (fl.zip ds) ls S else .bad
theorem raiO_ok {c : String} {fl : List String} {ls : Loc} {ds : List D} {S : Sto} (h : ds.length = fl.length ∧ ds.length ≤ 2 ∧ 0 < ds.length) : raiO c fl ls ds S = .exc c (fl.zip ds) ls S := if_pos h
def nxO (S : Sto) : Option Loc → SR
  | some l => .nx l S
  | none => .bad
theorem nxO_s (S : Sto) (l : Loc) : nxO S (some l) = .nx l S := rfl

/-- a test's two ways -/
def ifE (cx : Cxt) (a b : CE) (t : Bool) (ls : Loc) (S : Sto) : D → Res D
  | .bl true => ev cx a t ls S
  | .bl false => ev cx b t ls S
  | _ => .bad
theorem ifE_t (cx : Cxt) (a b : CE) (t : Bool) (ls : Loc) (S : Sto) : ifE cx a b t ls S (.bl true) = ev cx a t ls S := rfl
theorem ifE_f (cx : Cxt) (a b : CE) (t : Bool) (ls : Loc) (S : Sto) : ifE cx a b t ls S (.bl false) = ev cx b t ls S := rfl
def ifS (cx : Cxt) (a b : CB) (ls : Loc) (S : Sto) : D → SR
  | .bl true => evB cx a ls S
  | .bl false => evB cx b ls S
  | _ => .bad
theorem ifS_t (cx : Cxt) (a b : CB) (ls : Loc) (S : Sto) : ifS cx a b ls S (.bl true) = evB cx a ls S := rfl
theorem ifS_f (cx : Cxt) (a b : CB) (ls : Loc) (S : Sto) : ifS cx a b ls S (.bl false) = evB cx b ls S := rfl
def andE (cx : Cxt) (es : CL) (t : Bool) (ls : Loc) (S : Sto) : D → Res D
  | .bl true => evA cx es t ls S
  | .bl false => .ok (.bl false) S
  | _ => .bad
theorem andE_t (cx : Cxt) (es : CL) (t : Bool) (ls : Loc) (S : Sto) : andE cx es t ls S (.bl true) = evA cx es t ls S := rfl
theorem andE_f (cx : Cxt) (es : CL) (t : Bool) (ls : Loc) (S : Sto) : andE cx es t ls S (.bl false) = .ok (.bl false) S := rfl
def orE (cx : Cxt) (es : CL) (t : Bool) (ls : Loc) (S : Sto) : D → Res D
  | .bl true => .ok (.bl true) S
  | .bl false => evO cx es t ls S
  | _ => .bad
theorem orE_t (cx : Cxt) (es : CL) (t : Bool) (ls : Loc) (S : Sto) : orE cx es t ls S (.bl true) = .ok (.bl true) S := rfl
theorem orE_f (cx : Cxt) (es : CL) (t : Bool) (ls : Loc) (S : Sto) : orE cx es t ls S (.bl false) = evO cx es t ls S := rfl

def kTup  (r : Res (List D)) : Res D := r.bd fun x S1 => mkTup x S1
theorem kTup_k  (x : List D) (S1 : Sto) : kTup  (.ok x S1) = mkTup x S1 := rfl
theorem kTup_x  (xc : String) (fs : List (String × D)) (S1 : Sto) : kTup  (.exc xc fs S1) = .exc xc fs S1 := rfl
def kLst  (r : Res (List D)) : Res D := r.bd fun x S1 => mkLst x S1
theorem kLst_k  (x : List D) (S1 : Sto) : kLst  (.ok x S1) = mkLst x S1 := rfl
theorem kLst_x  (xc : String) (fs : List (String × D)) (S1 : Sto) : kLst  (.exc xc fs S1) = .exc xc fs S1 := rfl
def kLive  (r : Res D) : Res D := r.bd fun x S1 => mkLive x S1
theorem kLive_k  (x : D) (S1 : Sto) : kLive  (.ok x S1) = mkLive x S1 := rfl
theorem kLive_x  (xc : String) (fs : List (String × D)) (S1 : Sto) : kLive  (.exc xc fs S1) = .exc xc fs S1 := rfl
def kDic (ks : List D) (r : Res (List D)) : Res D := r.bd fun x S1 => mkDic ks x S1
theorem kDic_k (ks : List D) (x : List D) (S1 : Sto) : kDic ks (.ok x S1) = mkDic ks x S1 := rfl
theorem kDic_x (ks : List D) (xc : String) (fs : List (String × D)) (S1 : Sto) : kDic ks (.exc xc fs S1) = .exc xc fs S1 := rfl
def kBin2 (op : Operator) (a : D) (r : Res D) : Res D := r.bd fun x S1 => ofO S1 (binD op S1 a x)
theorem kBin2_k (op : Operator) (a : D) (x : D) (S1 : Sto) : kBin2 op a (.ok x S1) = ofO S1 (binD op S1 a x) := rfl
theorem kBin2_x (op : Operator) (a : D) (xc : String) (fs : List (String × D)) (S1 : Sto) : kBin2 op a (.exc xc fs S1) = .exc xc fs S1 := rfl
def kBin1 (cx : Cxt) (op : Operator) (b : CE) (ls : Loc) (r : Res D) : Res D := r.bd fun x S1 => kBin2 op x (ev cx b false ls S1)
theorem kBin1_k (cx : Cxt) (op : Operator) (b : CE) (ls : Loc) (x : D) (S1 : Sto) : kBin1 cx op b ls (.ok x S1) = kBin2 op x (ev cx b false ls S1) := rfl
theorem kBin1_x (cx : Cxt) (op : Operator) (b : CE) (ls : Loc) (xc : String) (fs : List (String × D)) (S1 : Sto) : kBin1 cx op b ls (.exc xc fs S1) = .exc xc fs S1 := rfl
def kNeg  (r : Res D) : Res D := r.bd fun x S1 => negD x S1
theorem kNeg_k  (x : D) (S1 : Sto) : kNeg  (.ok x S1) = negD x S1 := rfl
theorem kNeg_x  (xc : String) (fs : List (String × D)) (S1 : Sto) : kNeg  (.exc xc fs S1) = .exc xc fs S1 := rfl
def kNot  (r : Res D) : Res D := r.bd fun x S1 => notD x S1
theorem kNot_k  (x : D) (S1 : Sto) : kNot  (.ok x S1) = notD x S1 := rfl
theorem kNot_x  (xc : String) (fs : List (String × D)) (S1 : Sto) : kNot  (.exc xc fs S1) = .exc xc fs S1 := rfl
def kCmp2 (op : CmpOp) (a : D) (r : Res D) : Res D := r.bd fun x S1 => ofO S1 (cmpD op S1 a x)
theorem kCmp2_k (op : CmpOp) (a : D) (x : D) (S1 : Sto) : kCmp2 op a (.ok x S1) = ofO S1 (cmpD op S1 a x) := rfl
theorem kCmp2_x (op : CmpOp) (a : D) (xc : String) (fs : List (String × D)) (S1 : Sto) : kCmp2 op a (.exc xc fs S1) = .exc xc fs S1 := rfl
def kCmp1 (cx : Cxt) (op : CmpOp) (b : CE) (ls : Loc) (r : Res D) : Res D := r.bd fun x S1 => kCmp2 op x (ev cx b false ls S1)
theorem kCmp1_k (cx : Cxt) (op : CmpOp) (b : CE) (ls : Loc) (x : D) (S1 : Sto) : kCmp1 cx op b ls (.ok x S1) = kCmp2 op x (ev cx b false ls S1) := rfl
theorem kCmp1_x (cx : Cxt) (op : CmpOp) (b : CE) (ls : Loc) (xc : String) (fs : List (String × D)) (S1 : Sto) : kCmp1 cx op b ls (.exc xc fs S1) = .exc xc fs S1 := rfl
def chnO (cx : Cxt) (o2 : CmpOp) (y : D) (c : CE) (ls : Loc) (S : Sto) : Option D → Res D
  | some (.bl true) => kCmp2 o2 y (ev cx c false ls S)
  | some (.bl false) => .ok (.bl false) S
  | _ => .bad
theorem chnO_t (cx : Cxt) (o2 : CmpOp) (y : D) (c : CE) (ls : Loc) (S : Sto) : chnO cx o2 y c ls S (some (.bl true)) = kCmp2 o2 y (ev cx c false ls S) := rfl
theorem chnO_f (cx : Cxt) (o2 : CmpOp) (y : D) (c : CE) (ls : Loc) (S : Sto) : chnO cx o2 y c ls S (some (.bl false)) = .ok (.bl false) S := rfl
def kChn2 (cx : Cxt) (o1 : CmpOp) (o2 : CmpOp) (a : D) (c : CE) (ls : Loc) (r : Res D) : Res D := r.bd fun x S1 => chnO cx o2 x c ls S1 (cmpD o1 S1 a x)
theorem kChn2_k (cx : Cxt) (o1 : CmpOp) (o2 : CmpOp) (a : D) (c : CE) (ls : Loc) (x : D) (S1 : Sto) : kChn2 cx o1 o2 a c ls (.ok x S1) = chnO cx o2 x c ls S1 (cmpD o1 S1 a x) := rfl
theorem kChn2_x (cx : Cxt) (o1 : CmpOp) (o2 : CmpOp) (a : D) (c : CE) (ls : Loc) (xc : String) (fs : List (String × D)) (S1 : Sto) : kChn2 cx o1 o2 a c ls (.exc xc fs S1) = .exc xc fs S1 := rfl
def kChn1 (cx : Cxt) (o1 : CmpOp) (o2 : CmpOp) (b : CE) (c : CE) (ls : Loc) (r : Res D) : Res D := r.bd fun x S1 => kChn2 cx o1 o2 x c ls (ev cx b false ls S1)
theorem kChn1_k (cx : Cxt) (o1 : CmpOp) (o2 : CmpOp) (b : CE) (c : CE) (ls : Loc) (x : D) (S1 : Sto) : kChn1 cx o1 o2 b c ls (.ok x S1) = kChn2 cx o1 o2 x c ls (ev cx b false ls S1) := rfl
theorem kChn1_x (cx : Cxt) (o1 : CmpOp) (o2 : CmpOp) (b : CE) (c : CE) (ls : Loc) (xc : String) (fs : List (String × D)) (S1 : Sto) : kChn1 cx o1 o2 b c ls (.exc xc fs S1) = .exc xc fs S1 := rfl
def kIf (cx : Cxt) (a : CE) (b : CE) (t : Bool) (ls : Loc) (r : Res D) : Res D := r.bd fun x S1 => ifE cx a b t ls S1 x
theorem kIf_k (cx : Cxt) (a : CE) (b : CE) (t : Bool) (ls : Loc) (x : D) (S1 : Sto) : kIf cx a b t ls (.ok x S1) = ifE cx a b t ls S1 x := rfl
theorem kIf_x (cx : Cxt) (a : CE) (b : CE) (t : Bool) (ls : Loc) (xc : String) (fs : List (String × D)) (S1 : Sto) : kIf cx a b t ls (.exc xc fs S1) = .exc xc fs S1 := rfl
def kAnd (cx : Cxt) (es : CL) (t : Bool) (ls : Loc) (r : Res D) : Res D := r.bd fun x S1 => andE cx es t ls S1 x
theorem kAnd_k (cx : Cxt) (es : CL) (t : Bool) (ls : Loc) (x : D) (S1 : Sto) : kAnd cx es t ls (.ok x S1) = andE cx es t ls S1 x := rfl
theorem kAnd_x (cx : Cxt) (es : CL) (t : Bool) (ls : Loc) (xc : String) (fs : List (String × D)) (S1 : Sto) : kAnd cx es t ls (.exc xc fs S1) = .exc xc fs S1 := rfl
def kOr (cx : Cxt) (es : CL) (t : Bool) (ls : Loc) (r : Res D) : Res D := r.bd fun x S1 => orE cx es t ls S1 x
theorem kOr_k (cx : Cxt) (es : CL) (t : Bool) (ls : Loc) (x : D) (S1 : Sto) : kOr cx es t ls (.ok x S1) = orE cx es t ls S1 x := rfl
theorem kOr_x (cx : Cxt) (es : CL) (t : Bool) (ls : Loc) (xc : String) (fs : List (String × D)) (S1 : Sto) : kOr cx es t ls (.exc xc fs S1) = .exc xc fs S1 := rfl
def kIdx2 (a : D) (r : Res D) : Res D := r.bd fun x S1 => ofO S1 (idxD S1 a x)
theorem kIdx2_k (a : D) (x : D) (S1 : Sto) : kIdx2 a (.ok x S1) = ofO S1 (idxD S1 a x) := rfl
theorem kIdx2_x (a : D) (xc : String) (fs : List (String × D)) (S1 : Sto) : kIdx2 a (.exc xc fs S1) = .exc xc fs S1 := rfl
def kIdx1 (cx : Cxt) (b : CE) (ls : Loc) (r : Res D) : Res D := r.bd fun x S1 => kIdx2 x (ev cx b false ls S1)
theorem kIdx1_k (cx : Cxt) (b : CE) (ls : Loc) (x : D) (S1 : Sto) : kIdx1 cx b ls (.ok x S1) = kIdx2 x (ev cx b false ls S1) := rfl
theorem kIdx1_x (cx : Cxt) (b : CE) (ls : Loc) (xc : String) (fs : List (String × D)) (S1 : Sto) : kIdx1 cx b ls (.exc xc fs S1) = .exc xc fs S1 := rfl
def kSlc3 (a : D) (l : Option Int) (r : Res (Option Int)) : Res D := r.bd fun x S1 => ofO S1 (slcD S1 a l x)
theorem kSlc3_k (a : D) (l : Option Int) (x : Option Int) (S1 : Sto) : kSlc3 a l (.ok x S1) = ofO S1 (slcD S1 a l x) := rfl
theorem kSlc3_x (a : D) (l : Option Int) (xc : String) (fs : List (String × D)) (S1 : Sto) : kSlc3 a l (.exc xc fs S1) = .exc xc fs S1 := rfl
def kSlc2 (cx : Cxt) (a : D) (hi : CO) (ls : Loc) (r : Res (Option Int)) : Res D := r.bd fun x S1 => kSlc3 a x (evp cx hi ls S1)
theorem kSlc2_k (cx : Cxt) (a : D) (hi : CO) (ls : Loc) (x : Option Int) (S1 : Sto) : kSlc2 cx a hi ls (.ok x S1) = kSlc3 a x (evp cx hi ls S1) := rfl
theorem kSlc2_x (cx : Cxt) (a : D) (hi : CO) (ls : Loc) (xc : String) (fs : List (String × D)) (S1 : Sto) : kSlc2 cx a hi ls (.exc xc fs S1) = .exc xc fs S1 := rfl
def kSlc1 (cx : Cxt) (lo : CO) (hi : CO) (ls : Loc) (r : Res D) : Res D := r.bd fun x S1 => kSlc2 cx x hi ls (evp cx lo ls S1)
theorem kSlc1_k (cx : Cxt) (lo : CO) (hi : CO) (ls : Loc) (x : D) (S1 : Sto) : kSlc1 cx lo hi ls (.ok x S1) = kSlc2 cx x hi ls (evp cx lo ls S1) := rfl
theorem kSlc1_x (cx : Cxt) (lo : CO) (hi : CO) (ls : Loc) (xc : String) (fs : List (String × D)) (S1 : Sto) : kSlc1 cx lo hi ls (.exc xc fs S1) = .exc xc fs S1 := rfl
def kRev  (r : Res D) : Res D := r.bd fun x S1 => revD S1 (drf S1 x)
theorem kRev_k  (x : D) (S1 : Sto) : kRev  (.ok x S1) = revD S1 (drf S1 x) := rfl
theorem kRev_x  (xc : String) (fs : List (String × D)) (S1 : Sto) : kRev  (.exc xc fs S1) = .exc xc fs S1 := rfl
def kCal (cal : String → List D → Sto → Res D) (f : String) (r : Res (List D)) : Res D := r.bd fun x S1 => cal f x S1
theorem kCal_k (cal : String → List D → Sto → Res D) (f : String) (x : List D) (S1 : Sto) : kCal cal f (.ok x S1) = cal f x S1 := rfl
theorem kCal_x (cal : String → List D → Sto → Res D) (f : String) (xc : String) (fs : List (String × D)) (S1 : Sto) : kCal cal f (.exc xc fs S1) = .exc xc fs S1 := rfl
def kKw (cal : String → List D → Sto → Res D) (f : String) (o : Option (List Nat)) (r : Res (List D)) : Res D := r.bd fun x S1 => kwD cal f x S1 o
theorem kKw_k (cal : String → List D → Sto → Res D) (f : String) (o : Option (List Nat)) (x : List D) (S1 : Sto) : kKw cal f o (.ok x S1) = kwD cal f x S1 o := rfl
theorem kKw_x (cal : String → List D → Sto → Res D) (f : String) (o : Option (List Nat)) (xc : String) (fs : List (String × D)) (S1 : Sto) : kKw cal f o (.exc xc fs S1) = .exc xc fs S1 := rfl
def kIsi (T : String) (r : Res D) : Res D := r.bd fun x S1 => ofO S1 ((isiD S1 x T).map .bl)
theorem kIsi_k (T : String) (x : D) (S1 : Sto) : kIsi T (.ok x S1) = ofO S1 ((isiD S1 x T).map .bl) := rfl
theorem kIsi_x (T : String) (xc : String) (fs : List (String × D)) (S1 : Sto) : kIsi T (.exc xc fs S1) = .exc xc fs S1 := rfl
def kBlt (f : Bt) (r : Res (List D)) : Res D := r.bd fun x S1 => ofO S1 (bltD S1 f x)
theorem kBlt_k (f : Bt) (x : List D) (S1 : Sto) : kBlt f (.ok x S1) = ofO S1 (bltD S1 f x) := rfl
theorem kBlt_x (f : Bt) (xc : String) (fs : List (String × D)) (S1 : Sto) : kBlt f (.exc xc fs S1) = .exc xc fs S1 := rfl
def kMth2 (m : Mt) (o : D) (r : Res (List D)) : Res D := r.bd fun x S1 => mthD m o x S1
theorem kMth2_k (m : Mt) (o : D) (x : List D) (S1 : Sto) : kMth2 m o (.ok x S1) = mthD m o x S1 := rfl
theorem kMth2_x (m : Mt) (o : D) (xc : String) (fs : List (String × D)) (S1 : Sto) : kMth2 m o (.exc xc fs S1) = .exc xc fs S1 := rfl
def mthG (cx : Cxt) (m : Mt) (o : D) (es : CL) (ls : Loc) (S : Sto) (b : Bool) : Res D := if b = true then kMth2 m o (evs cx es ls S) else .bad
theorem mthG_t (cx : Cxt) (m : Mt) (o : D) (es : CL) (ls : Loc) (S : Sto) : mthG cx m o es ls S true = kMth2 m o (evs cx es ls S) := rfl
def kMth1 (cx : Cxt) (m : Mt) (es : CL) (ls : Loc) (r : Res D) : Res D := r.bd fun x S1 => mthG cx m x es ls S1 (tyM m S1 x)
theorem kMth1_k (cx : Cxt) (m : Mt) (es : CL) (ls : Loc) (x : D) (S1 : Sto) : kMth1 cx m es ls (.ok x S1) = mthG cx m x es ls S1 (tyM m S1 x) := rfl
theorem kMth1_x (cx : Cxt) (m : Mt) (es : CL) (ls : Loc) (xc : String) (fs : List (String × D)) (S1 : Sto) : kMth1 cx m es ls (.exc xc fs S1) = .exc xc fs S1 := rfl
def kGix (o : Option (List D × List D)) (r : Res D) : Res D := r.bd fun x S1 => gixO S1 x o
theorem kGix_k (o : Option (List D × List D)) (x : D) (S1 : Sto) : kGix o (.ok x S1) = gixO S1 x o := rfl
theorem kGix_x (o : Option (List D × List D)) (xc : String) (fs : List (String × D)) (S1 : Sto) : kGix o (.exc xc fs S1) = .exc xc fs S1 := rfl
def kEs2 (d : D) (r : Res (List D)) : Res (List D) := r.bd fun x S1 => .ok (d :: x) S1
theorem kEs2_k (d : D) (x : List D) (S1 : Sto) : kEs2 d (.ok x S1) = .ok (d :: x) S1 := rfl
theorem kEs2_x (d : D) (xc : String) (fs : List (String × D)) (S1 : Sto) : kEs2 d (.exc xc fs S1) = .exc xc fs S1 := rfl
def kEs1 (cx : Cxt) (es : CL) (ls : Loc) (r : Res D) : Res (List D) := r.bd fun x S1 => kEs2 x (evs cx es ls S1)
theorem kEs1_k (cx : Cxt) (es : CL) (ls : Loc) (x : D) (S1 : Sto) : kEs1 cx es ls (.ok x S1) = kEs2 x (evs cx es ls S1) := rfl
theorem kEs1_x (cx : Cxt) (es : CL) (ls : Loc) (xc : String) (fs : List (String × D)) (S1 : Sto) : kEs1 cx es ls (.exc xc fs S1) = .exc xc fs S1 := rfl
def kAsI  (r : Res D) : Res (Option Int) := r.bd fun x S1 => asI x S1
theorem kAsI_k  (x : D) (S1 : Sto) : kAsI  (.ok x S1) = asI x S1 := rfl
theorem kAsI_x  (xc : String) (fs : List (String × D)) (S1 : Sto) : kAsI  (.exc xc fs S1) = .exc xc fs S1 := rfl
def kSeq  (r : Res D) : Res Wk := r.bd fun x S1 => ofO S1 (srcD S1 x)
theorem kSeq_k  (x : D) (S1 : Sto) : kSeq  (.ok x S1) = ofO S1 (srcD S1 x) := rfl
theorem kSeq_x  (xc : String) (fs : List (String × D)) (S1 : Sto) : kSeq  (.exc xc fs S1) = .exc xc fs S1 := rfl
def kRng1  (r : Res D) : Res Wk := r.bd fun x S1 => rng1D x S1
theorem kRng1_k  (x : D) (S1 : Sto) : kRng1  (.ok x S1) = rng1D x S1 := rfl
theorem kRng1_x  (xc : String) (fs : List (String × D)) (S1 : Sto) : kRng1  (.exc xc fs S1) = .exc xc fs S1 := rfl
def kRng2b (a : D) (r : Res D) : Res Wk := r.bd fun x S1 => rng2D a x S1
theorem kRng2b_k (a : D) (x : D) (S1 : Sto) : kRng2b a (.ok x S1) = rng2D a x S1 := rfl
theorem kRng2b_x (a : D) (xc : String) (fs : List (String × D)) (S1 : Sto) : kRng2b a (.exc xc fs S1) = .exc xc fs S1 := rfl
def kRng2a (cx : Cxt) (b : CE) (ls : Loc) (r : Res D) : Res Wk := r.bd fun x S1 => kRng2b x (ev cx b false ls S1)
theorem kRng2a_k (cx : Cxt) (b : CE) (ls : Loc) (x : D) (S1 : Sto) : kRng2a cx b ls (.ok x S1) = kRng2b x (ev cx b false ls S1) := rfl
theorem kRng2a_x (cx : Cxt) (b : CE) (ls : Loc) (xc : String) (fs : List (String × D)) (S1 : Sto) : kRng2a cx b ls (.exc xc fs S1) = .exc xc fs S1 := rfl
def kEnu2  (r : Res Wk) : Res Wk := r.bd fun x S1 => .ok (enuL 0 x.1, x.2) S1
theorem kEnu2_k  (x : Wk) (S1 : Sto) : kEnu2  (.ok x S1) = .ok (enuL 0 x.1, x.2) S1 := rfl
theorem kEnu2_x  (xc : String) (fs : List (String × D)) (S1 : Sto) : kEnu2  (.exc xc fs S1) = .exc xc fs S1 := rfl
def kEnu1  (r : Res D) : Res Wk := r.bd fun x S1 => kEnu2 (ofO S1 (srcQ S1 x))
theorem kEnu1_k  (x : D) (S1 : Sto) : kEnu1  (.ok x S1) = kEnu2 (ofO S1 (srcQ S1 x)) := rfl
theorem kEnu1_x  (xc : String) (fs : List (String × D)) (S1 : Sto) : kEnu1  (.exc xc fs S1) = .exc xc fs S1 := rfl
def kZip4 (w : Wk) (r : Res Wk) : Res Wk := r.bd fun x S1 => .ok (zipL w.1 x.1, w.2 ++ x.2) S1
theorem kZip4_k (w : Wk) (x : Wk) (S1 : Sto) : kZip4 w (.ok x S1) = .ok (zipL w.1 x.1, w.2 ++ x.2) S1 := rfl
theorem kZip4_x (w : Wk) (xc : String) (fs : List (String × D)) (S1 : Sto) : kZip4 w (.exc xc fs S1) = .exc xc fs S1 := rfl
def kZip3 (e : D) (r : Res Wk) : Res Wk := r.bd fun x S1 => kZip4 x (ofO S1 (srcD S1 e))
theorem kZip3_k (e : D) (x : Wk) (S1 : Sto) : kZip3 e (.ok x S1) = kZip4 x (ofO S1 (srcD S1 e)) := rfl
theorem kZip3_x (e : D) (xc : String) (fs : List (String × D)) (S1 : Sto) : kZip3 e (.exc xc fs S1) = .exc xc fs S1 := rfl
def kZip2 (d : D) (r : Res D) : Res Wk := r.bd fun x S1 => kZip3 x (ofO S1 (srcD S1 d))
theorem kZip2_k (d : D) (x : D) (S1 : Sto) : kZip2 d (.ok x S1) = kZip3 x (ofO S1 (srcD S1 d)) := rfl
theorem kZip2_x (d : D) (xc : String) (fs : List (String × D)) (S1 : Sto) : kZip2 d (.exc xc fs S1) = .exc xc fs S1 := rfl
def kZip1 (cx : Cxt) (b : CE) (ls : Loc) (r : Res D) : Res Wk := r.bd fun x S1 => kZip2 x (ev cx b false ls S1)
theorem kZip1_k (cx : Cxt) (b : CE) (ls : Loc) (x : D) (S1 : Sto) : kZip1 cx b ls (.ok x S1) = kZip2 x (ev cx b false ls S1) := rfl
theorem kZip1_x (cx : Cxt) (b : CE) (ls : Loc) (xc : String) (fs : List (String × D)) (S1 : Sto) : kZip1 cx b ls (.exc xc fs S1) = .exc xc fs S1 := rfl
def kRvs2  (r : Res Wk) : Res Wk := r.bd fun x S1 => .ok (x.1.reverse, x.2) S1
theorem kRvs2_k  (x : Wk) (S1 : Sto) : kRvs2  (.ok x S1) = .ok (x.1.reverse, x.2) S1 := rfl
theorem kRvs2_x  (xc : String) (fs : List (String × D)) (S1 : Sto) : kRvs2  (.exc xc fs S1) = .exc xc fs S1 := rfl
def kRvs1  (r : Res D) : Res Wk := r.bd fun x S1 => kRvs2 (ofO S1 (srcD S1 x))
theorem kRvs1_k  (x : D) (S1 : Sto) : kRvs1  (.ok x S1) = kRvs2 (ofO S1 (srcD S1 x)) := rfl
theorem kRvs1_x  (xc : String) (fs : List (String × D)) (S1 : Sto) : kRvs1  (.exc xc fs S1) = .exc xc fs S1 := rfl
/-- a turn of a comprehension -/
def addK (acc : List D) (r : Res D) : Res (List D) := r.bd fun x S1 => addA acc x S1
theorem addK_k (acc : List D) (x : D) (S1 : Sto) : addK acc (.ok x S1) = addA acc x S1 := rfl
def ifC (cx : Cxt) (elt : CE) (ls : Loc) (acc : List D) (S : Sto) : D → Res (List D)
  | .bl true => addK acc (ev cx elt false ls S)
  | .bl false => .ok acc S
  | _ => .bad
theorem ifC_t (cx : Cxt) (elt : CE) (ls : Loc) (acc : List D) (S : Sto) : ifC cx elt ls acc S (.bl true) = addK acc (ev cx elt false ls S) := rfl
theorem ifC_f (cx : Cxt) (elt : CE) (ls : Loc) (acc : List D) (S : Sto) : ifC cx elt ls acc S (.bl false) = .ok acc S := rfl
def ifCK (cx : Cxt) (elt : CE) (ls : Loc) (acc : List D) (r : Res D) : Res (List D) := r.bd fun x S1 => ifC cx elt ls acc S1 x
theorem ifCK_k (cx : Cxt) (elt : CE) (ls : Loc) (acc : List D) (x : D) (S1 : Sto) : ifCK cx elt ls acc (.ok x S1) = ifC cx elt ls acc S1 x := rfl
def turn0 (cx : Cxt) (elt : CE) (acc : List D) (S : Sto) : Option Loc → Res (List D)
  | some l => addK acc (ev cx elt false l S)
  | none => .bad
theorem turn0_s (cx : Cxt) (elt : CE) (acc : List D) (S : Sto) (l : Loc) : turn0 cx elt acc S (some l) = addK acc (ev cx elt false l S) := rfl
def turn1 (cx : Cxt) (c elt : CE) (acc : List D) (S : Sto) : Option Loc → Res (List D)
  | some l => ifCK cx elt l acc (ev cx c true l S)
  | none => .bad
theorem turn1_s (cx : Cxt) (c elt : CE) (acc : List D) (S : Sto) (l : Loc) : turn1 cx c elt acc S (some l) = ifCK cx elt l acc (ev cx c true l S) := rfl
/-- a comprehension's walk -/
def comp0 (cx : Cxt) (own : List Nat) (tg : Tg) (elt : CE) (ls : Loc) (w : Wk) (S : Sto) : Res (List D) := compF w.2 (fun x acc S2 => turn0 cx elt acc S2 (asg tg x (wipeL ls own))) w.1 [] S
def comp1 (cx : Cxt) (own : List Nat) (tg : Tg) (c elt : CE) (ls : Loc) (w : Wk) (S : Sto) : Res (List D) := compF w.2 (fun x acc S2 => turn1 cx c elt acc S2 (asg tg x (wipeL ls own))) w.1 [] S
/-- a loop's walk -/
def turnS (cx : Cxt) (b : CB) (S : Sto) : Option Loc → SR
  | some l => evB cx b l S
  | none => .bad
theorem turnS_s (cx : Cxt) (b : CB) (S : Sto) (l : Loc) : turnS cx b S (some l) = evB cx b l S := rfl
def forB (cx : Cxt) (tg : Tg) (b : CB) (w : Wk) (ls : Loc) (S : Sto) : SR := forF w.2 (fun x l s => turnS cx b s (asg tg x l)) w.1 ls S
def whlB (cx : Cxt) (c : CE) (b : CB) (n : Nat) (ls : Loc) (S : Sto) : SR := whlF (fun l s => ev cx c true l s) (fun l s => evB cx b l s) n ls S
def kLstR (r : Res (List D)) : Res D := r.nox.bd fun x S1 => .ok (.lst x) S1
theorem kLstR_k (x : List D) (S1 : Sto) : kLstR (.ok x S1) = .ok (.lst x) S1 := rfl

def kComp0 (cx : Cxt) (own : List Nat) (tg : Tg) (elt : CE) (ls : Loc) (r : Res Wk) : Res D := r.bd fun x S1 => kLstR (comp0 cx own tg elt ls x S1)
theorem kComp0_k (cx : Cxt) (own : List Nat) (tg : Tg) (elt : CE) (ls : Loc) (x : Wk) (S1 : Sto) : kComp0 cx own tg elt ls (.ok x S1) = kLstR (comp0 cx own tg elt ls x S1) := rfl
theorem kComp0_x (cx : Cxt) (own : List Nat) (tg : Tg) (elt : CE) (ls : Loc) (xc : String) (fs : List (String × D)) (S1 : Sto) : kComp0 cx own tg elt ls (.exc xc fs S1) = .exc xc fs S1 := rfl
def kComp1 (cx : Cxt) (own : List Nat) (tg : Tg) (c : CE) (elt : CE) (ls : Loc) (r : Res Wk) : Res D := r.bd fun x S1 => kLstR (comp1 cx own tg c elt ls x S1)
theorem kComp1_k (cx : Cxt) (own : List Nat) (tg : Tg) (c : CE) (elt : CE) (ls : Loc) (x : Wk) (S1 : Sto) : kComp1 cx own tg c elt ls (.ok x S1) = kLstR (comp1 cx own tg c elt ls x S1) := rfl
theorem kComp1_x (cx : Cxt) (own : List Nat) (tg : Tg) (c : CE) (elt : CE) (ls : Loc) (xc : String) (fs : List (String × D)) (S1 : Sto) : kComp1 cx own tg c elt ls (.exc xc fs S1) = .exc xc fs S1 := rfl
def sExpr  (ls : Loc) (r : Res D) : SR := r.sd ls fun x S1 => .nx ls S1
theorem sExpr_k  (ls : Loc) (x : D) (S1 : Sto) : sExpr  ls (.ok x S1) = .nx ls S1 := rfl
theorem sExpr_x  (ls : Loc) (xc : String) (fs : List (String × D)) (S1 : Sto) : sExpr  ls (.exc xc fs S1) = .exc xc fs ls S1 := rfl
def sSet (tg : Tg) (ls : Loc) (r : Res D) : SR := r.sd ls fun x S1 => nxO S1 (asg tg x ls)
theorem sSet_k (tg : Tg) (ls : Loc) (x : D) (S1 : Sto) : sSet tg ls (.ok x S1) = nxO S1 (asg tg x ls) := rfl
theorem sSet_x (tg : Tg) (ls : Loc) (xc : String) (fs : List (String × D)) (S1 : Sto) : sSet tg ls (.exc xc fs S1) = .exc xc fs ls S1 := rfl
def sPar (is : List Nat) (ls : Loc) (r : Res (List D)) : SR := r.sd ls fun x S1 => nxO S1 (setAll is x ls)
theorem sPar_k (is : List Nat) (ls : Loc) (x : List D) (S1 : Sto) : sPar is ls (.ok x S1) = nxO S1 (setAll is x ls) := rfl
theorem sPar_x (is : List Nat) (ls : Loc) (xc : String) (fs : List (String × D)) (S1 : Sto) : sPar is ls (.exc xc fs S1) = .exc xc fs ls S1 := rfl
def sPut3 (v : D) (o : D) (ls : Loc) (r : Res D) : SR := r.sd ls fun x S1 => putO ls (putD S1 o x v)
theorem sPut3_k (v : D) (o : D) (ls : Loc) (x : D) (S1 : Sto) : sPut3 v o ls (.ok x S1) = putO ls (putD S1 o x v) := rfl
theorem sPut3_x (v : D) (o : D) (ls : Loc) (xc : String) (fs : List (String × D)) (S1 : Sto) : sPut3 v o ls (.exc xc fs S1) = .exc xc fs ls S1 := rfl
def sPut2 (cx : Cxt) (v : D) (k : CE) (ls : Loc) (r : Res D) : SR := r.sd ls fun x S1 => sPut3 v x ls (ev cx k false ls S1)
theorem sPut2_k (cx : Cxt) (v : D) (k : CE) (ls : Loc) (x : D) (S1 : Sto) : sPut2 cx v k ls (.ok x S1) = sPut3 v x ls (ev cx k false ls S1) := rfl
theorem sPut2_x (cx : Cxt) (v : D) (k : CE) (ls : Loc) (xc : String) (fs : List (String × D)) (S1 : Sto) : sPut2 cx v k ls (.exc xc fs S1) = .exc xc fs ls S1 := rfl
def sPut1 (cx : Cxt) (o : CE) (k : CE) (ls : Loc) (r : Res D) : SR := r.sd ls fun x S1 => sPut2 cx x k ls (ev cx o false ls S1)
theorem sPut1_k (cx : Cxt) (o : CE) (k : CE) (ls : Loc) (x : D) (S1 : Sto) : sPut1 cx o k ls (.ok x S1) = sPut2 cx x k ls (ev cx o false ls S1) := rfl
theorem sPut1_x (cx : Cxt) (o : CE) (k : CE) (ls : Loc) (xc : String) (fs : List (String × D)) (S1 : Sto) : sPut1 cx o k ls (.exc xc fs S1) = .exc xc fs ls S1 := rfl
def sIf (cx : Cxt) (a : CB) (b : CB) (ls : Loc) (r : Res D) : SR := r.sd ls fun x S1 => ifS cx a b ls S1 x
theorem sIf_k (cx : Cxt) (a : CB) (b : CB) (ls : Loc) (x : D) (S1 : Sto) : sIf cx a b ls (.ok x S1) = ifS cx a b ls S1 x := rfl
theorem sIf_x (cx : Cxt) (a : CB) (b : CB) (ls : Loc) (xc : String) (fs : List (String × D)) (S1 : Sto) : sIf cx a b ls (.exc xc fs S1) = .exc xc fs ls S1 := rfl
def sFor (cx : Cxt) (tg : Tg) (b : CB) (ls : Loc) (r : Res Wk) : SR := r.sd ls fun x S1 => forB cx tg b x ls S1
theorem sFor_k (cx : Cxt) (tg : Tg) (b : CB) (ls : Loc) (x : Wk) (S1 : Sto) : sFor cx tg b ls (.ok x S1) = forB cx tg b x ls S1 := rfl
theorem sFor_x (cx : Cxt) (tg : Tg) (b : CB) (ls : Loc) (xc : String) (fs : List (String × D)) (S1 : Sto) : sFor cx tg b ls (.exc xc fs S1) = .exc xc fs ls S1 := rfl
def sRet  (ls : Loc) (r : Res D) : SR := r.sd ls fun x S1 => .rt x S1
theorem sRet_k  (ls : Loc) (x : D) (S1 : Sto) : sRet  ls (.ok x S1) = .rt x S1 := rfl
theorem sRet_x  (ls : Loc) (xc : String) (fs : List (String × D)) (S1 : Sto) : sRet  ls (.exc xc fs S1) = .exc xc fs ls S1 := rfl
def sRai (c : String) (fl : List String) (ls : Loc) (r : Res (List D)) : SR := r.sd ls fun x S1 => raiO c fl ls x S1
theorem sRai_k (c : String) (fl : List String) (ls : Loc) (x : List D) (S1 : Sto) : sRai c fl ls (.ok x S1) = raiO c fl ls x S1 := rfl
theorem sRai_x (c : String) (fl : List String) (ls : Loc) (xc : String) (fs : List (String × D)) (S1 : Sto) : sRai c fl ls (.exc xc fs S1) = .exc xc fs ls S1 := rfl
def sqB (cx : Cxt) (b : CB) (r : SR) : SR := r.sq fun l2 S2 => evB cx b l2 S2
theorem sqB_nx (cx : Cxt) (b : CB) (ls : Loc) (S : Sto) : sqB cx b (.nx ls S) = evB cx b ls S := rfl
theorem sqB_rt (cx : Cxt) (b : CB) (d : D) (S : Sto) : sqB cx b (.rt d S) = .rt d S := rfl
theorem sqB_bk (cx : Cxt) (b : CB) (ls : Loc) (S : Sto) : sqB cx b (.bk ls S) = .bk ls S := rfl
theorem sqB_ct (cx : Cxt) (b : CB) (ls : Loc) (S : Sto) : sqB cx b (.ct ls S) = .ct ls S := rfl
theorem sqB_x (cx : Cxt) (b : CB) (c : String) (fs : List (String × D)) (ls : Loc) (S : Sto) : sqB cx b (.exc c fs ls S) = .exc c fs ls S := rfl
/-- a try -/
def tryK (cx : Cxt) (c : String) (es : CL) : SR → SR
  | .exc c' fs l1 S1 => if xok cx.fld c' fs = true then (if cx.sub c' c = true then (match hotL es fs with
        | some ds => if ds.length ≤ 16777216 then .rt (.tup ds) S1 else .bad
        | none => .bad) else .exc c' fs l1 S1) else .bad
  | r => r
theorem tryK_nx (cx : Cxt) (c : String) (es : CL) (ls : Loc) (S : Sto) : tryK cx c es (.nx ls S) = .nx ls S := rfl
theorem tryK_rt (cx : Cxt) (c : String) (es : CL) (d : D) (S : Sto) : tryK cx c es (.rt d S) = .rt d S := rfl
section
variable (cx : Cxt) (t : Bool) (ls : Loc) (S : Sto)
theorem s_try (b : CB) (c : String) (i : Nat) (es : CL) : evS cx (.tryr b c i es) ls S = tryK cx c es (evB cx b ls S) := by rw [evS]; cases evB cx b ls S <;> rfl
theorem e_var (i : Nat) : ev cx (.var i) t ls S = fin t (varO S ls[i]?) := by rw [ev]; rfl
theorem e_con (d : D) : ev cx (.con d) t ls S = fin t (.ok d S) := by rw [ev]
theorem e_glb (x : String) : ev cx (.glb x) t ls S = fin t (ofO S (cx.glb x)) := by rw [ev]
theorem e_tup (es : CL) : ev cx (.tup es) t ls S = fin t (kTup (evs cx es ls S)) := by rw [ev]; rfl
theorem e_lst (es : CL) : ev cx (.lst es) t ls S = fin t (kLst (evs cx es ls S)) := by rw [ev]; rfl
theorem e_dsp (ks : List D) (vs : CL) : ev cx (.dsp ks vs) t ls S = fin t (kDic ks (evs cx vs ls S).nox) := by rw [ev]; rfl
theorem e_live (e : CE) : ev cx (.live e) t ls S = fin t (kLive (ev cx e false ls S)) := by rw [ev]; rfl
theorem e_bin (op : Operator) (a b : CE) : ev cx (.bin op a b) t ls S = fin t (kBin1 cx op b ls (ev cx a false ls S)) := by rw [ev]; rfl
theorem e_neg (a : CE) : ev cx (.neg a) t ls S = fin t (kNeg (ev cx a false ls S)) := by rw [ev]; rfl
theorem e_nt (a : CE) : ev cx (.nt a) t ls S = kNot (ev cx a t ls S) := by rw [ev]; rfl
theorem e_cmp (op : CmpOp) (a b : CE) : ev cx (.cmp op a b) t ls S = kCmp1 cx op b ls (ev cx a false ls S) := by rw [ev]; rfl
theorem e_chn (o1 o2 : CmpOp) (a b c : CE) : ev cx (.chn o1 o2 a b c) t ls S = kChn1 cx o1 o2 b c ls (ev cx a false ls S) := by rw [ev]; rfl
theorem e_and (es : CL) : ev cx (.and es) t ls S = evA cx es t ls S := by rw [ev]
theorem e_or (es : CL) : ev cx (.or es) t ls S = evO cx es t ls S := by rw [ev]
theorem e_ite (c a b : CE) : ev cx (.ite c a b) t ls S = kIf cx a b t ls (ev cx c true ls S) := by rw [ev]; rfl
theorem e_idx (a b : CE) : ev cx (.idx a b) t ls S = fin t (kIdx1 cx b ls (ev cx a false ls S)) := by rw [ev]; rfl
theorem e_slc (a : CE) (lo hi : CO) : ev cx (.slc a lo hi) t ls S = fin t (kSlc1 cx lo hi ls (ev cx a false ls S)) := by rw [ev]; rfl
theorem e_rev (a : CE) : ev cx (.rev a) t ls S = fin t (kRev (ev cx a false ls S)) := by rw [ev]; rfl
theorem e_cal (f : String) (es : CL) : ev cx (.cal f es) t ls S = fin t (kCal cx.cal f (evs cx es ls S)) := by rw [ev]; rfl
theorem e_calk (f : String) (ks : List String) (vs : CL) : ev cx (.calk f ks vs) t ls S = fin t (kKw cx.cal f (cx.kws f ks) (evs cx vs ls S)) := by
  rw [ev]; congr 1
theorem e_isi (e : CE) (T : String) : ev cx (.isi e T) t ls S = fin t (kIsi T (ev cx e false ls S)) := by rw [ev]; rfl
theorem e_blt (f : Bt) (es : CL) : ev cx (.blt f es) t ls S = fin t (kBlt f (evs cx es ls S)) := by rw [ev]; rfl
theorem e_mth (m : Mt) (o : CE) (es : CL) : ev cx (.mth m o es) t ls S = fin t (kMth1 cx m es ls (ev cx o false ls S)) := by rw [ev]; rfl
theorem e_comp0 (own : List Nat) (tg : Tg) (it : CI) (elt : CE) : ev cx (.comp own tg it .no elt) t ls S = fin t (kComp0 cx own tg elt ls (evi cx it ls S)) := by
  rw [ev]; congr 1
theorem e_comp1 (own : List Nat) (tg : Tg) (it : CI) (c elt : CE) : ev cx (.comp own tg it (.so c) elt) t ls S = fin t (kComp1 cx own tg c elt ls (evi cx it ls S)) := by
  rw [ev]; congr 1
theorem e_gix (x : String) (e : CE) : ev cx (.gix x e) t ls S = fin t (kGix (cx.gdc x) (ev cx e false ls S)) := by
  rw [ev]; congr 1
theorem es_nil : evs cx .nil ls S = .ok [] S := by rw [evs]
theorem es_cons (e : CE) (es : CL) : evs cx (.cons e es) ls S = kEs1 cx es ls (ev cx e false ls S) := by rw [evs]; rfl
theorem ep_no : evp cx .no ls S = .ok none S := by rw [evp]
theorem ep_so (e : CE) : evp cx (.so e) ls S = kAsI (ev cx e false ls S) := by rw [evp]; rfl
theorem ea_1 (e : CE) : evA cx (.cons e .nil) t ls S = ev cx e t ls S := by rw [evA]
theorem ea_2 (e e2 : CE) (es : CL) : evA cx (.cons e (.cons e2 es)) t ls S = kAnd cx (.cons e2 es) t ls (ev cx e t ls S) := by rw [evA] <;> first | rfl | (intro h; cases h)
theorem eo_1 (e : CE) : evO cx (.cons e .nil) t ls S = ev cx e t ls S := by rw [evO]
theorem eo_2 (e e2 : CE) (es : CL) : evO cx (.cons e (.cons e2 es)) t ls S = kOr cx (.cons e2 es) t ls (ev cx e t ls S) := by rw [evO] <;> first | rfl | (intro h; cases h)
theorem ei_seq (e : CE) : evi cx (.seq e) ls S = kSeq (ev cx e false ls S) := by rw [evi]; rfl
theorem ei_rng1 (a : CE) : evi cx (.rng1 a) ls S = kRng1 (ev cx a false ls S) := by rw [evi]; rfl
theorem ei_rng2 (a b : CE) : evi cx (.rng2 a b) ls S = kRng2a cx b ls (ev cx a false ls S) := by rw [evi]; rfl
theorem ei_enu (e : CE) : evi cx (.enu e) ls S = kEnu1 (ev cx e false ls S) := by rw [evi]; rfl
theorem ei_zip (a b : CE) : evi cx (.zip a b) ls S = kZip1 cx b ls (ev cx a false ls S) := by rw [evi]; rfl
theorem ei_rvs (e : CE) : evi cx (.rvs e) ls S = kRvs1 (ev cx e false ls S) := by rw [evi]; rfl
theorem s_expr (e : CE) : evS cx (.expr e) ls S = sExpr ls (ev cx e false ls S) := by rw [evS]; rfl
theorem s_set (tg : Tg) (e : CE) : evS cx (.set tg e) ls S = sSet tg ls (ev cx e false ls S) := by rw [evS]; rfl
theorem s_par (is : List Nat) (es : CL) : evS cx (.par is es) ls S = sPar is ls (evs cx es ls S) := by rw [evS]; rfl
theorem s_put (o k v : CE) : evS cx (.put o k v) ls S = sPut1 cx o k ls (ev cx v false ls S) := by rw [evS]; rfl
theorem s_ifs (c : CE) (a b : CB) : evS cx (.ifs c a b) ls S = sIf cx a b ls (ev cx c true ls S) := by rw [evS]; rfl
theorem s_whl (c : CE) (b : CB) : evS cx (.whl c b) ls S = whlB cx c b cx.fuel ls S := by rw [evS]; rfl
theorem s_for (tg : Tg) (it : CI) (b : CB) : evS cx (.for_ tg it b) ls S = sFor cx tg b ls (evi cx it ls S) := by rw [evS]; rfl
theorem s_ret (e : CE) : evS cx (.ret e) ls S = sRet ls (ev cx e false ls S) := by rw [evS]; rfl
theorem s_retn : evS cx .retn ls S = .rt .non S := by rw [evS]
theorem s_brk : evS cx .brk ls S = .bk ls S := by rw [evS]
theorem s_cnt : evS cx .cnt ls S = .ct ls S := by rw [evS]
theorem s_pas : evS cx .pas ls S = .nx ls S := by rw [evS]
theorem s_rai (c : String) (es : CL) : evS cx (.rai c es) ls S = sRai c (cx.fld c) ls (evs cx es ls S) := by rw [evS]; rfl
theorem b_nil : evB cx .nil ls S = .nx ls S := by rw [evB]
theorem b_cons (s : CS) (b : CB) : evB cx (.cons s b) ls S = sqB cx b (evS cx s ls S) := by rw [evB]; rfl
end
end

/-! ### what the context says -/
section
variable (G : Glo) (c : String → List D → Sto → Res D)
theorem cx_cal : (G.cx c).cal = c := rfl
theorem cx_glb : (G.cx c).glb = G.glb := rfl
theorem cx_gdc : (G.cx c).gdc = G.gdc := rfl
theorem cx_kws : (G.cx c).kws = G.kws := rfl
theorem cx_fld : (G.cx c).fld = G.fld := rfl
theorem cx_sub : (G.cx c).sub = G.sub := rfl
theorem cx_fuel : (G.cx c).fuel = G.fuel := rfl
theorem callF_s {G : Glo} {tab : List FDef} {n : Nat} {x : String} {f : FDef} {ds : List D} {S : Sto} (h : tab.find? (fun f => f.name == x) = some f) : callF G tab (n + 1) x ds S = runF G (callF G tab n) f ds S := by
  rw [callF, h]
end
theorem leave_rt (S0 : Sto) (d : D) (S : Sto) : leave .raw S0 (.rt d S) = .ok d S := rfl
theorem leave_nx (S0 : Sto) (l : Loc) (S : Sto) : leave .raw S0 (.nx l S) = .ok .non S := rfl
theorem leave_exc (S0 : Sto) (c : String) (fs : List (String × D)) (l : Loc) (S : Sto) : leave .raw S0 (.exc c fs l S) = .exc c fs S := rfl
/-- texts compared, sign by sign -/
def eqS : List Nat → List Nat → Bool
  | [], [] => true
  | [], _ :: _ => false
  | _ :: _, [] => false
  | a :: s, b :: t => a == b && eqS s t
theorem eqS_dec : ∀ s t : List Nat, eqS s t = decide (s = t)
  | [], [] => rfl
  | [], _ :: _ => rfl
  | _ :: _, [] => rfl
  | a :: s, b :: t => by
    rw [eqS, eqS_dec s t]
    by_cases h : a = b <;> by_cases h' : s = t <;> simp [h, h']
theorem eqS_nn : eqS [] [] = true := rfl
theorem eqS_nc (a : Nat) (s : List Nat) : eqS [] (a :: s) = false := rfl
theorem eqS_cn (a : Nat) (s : List Nat) : eqS (a :: s) [] = false := rfl
theorem eqS_cc (a b : Nat) (s t : List Nat) : eqS (a :: s) (b :: t) = (a == b && eqS s t) := rfl
theorem eqS_self (s : List Nat) : eqS s s = true := by rw [eqS_dec]; exact decide_eq_true rfl
/-! ### the words of data -/
section
variable (S : Sto)
theorem drf_tup (xs : List D) : drf S (.tup xs) = .tup xs := rfl
theorem drf_lst (xs : List D) : drf S (.lst xs) = .lst xs := rfl
theorem drf_ro (xs : List D) : drf S (.ro xs) = .ro xs := rfl
theorem drfq_str (s : List Nat) : drf S (.str s) = .str s := rfl
theorem drfq_int (i : Int) : drf S (.int i) = .int i := rfl
theorem drfq_bl (b : Bool) : drf S (.bl b) = .bl b := rfl
theorem drfq_non : drf S .non = .non := rfl
theorem drf_dic (ks vs : List D) : drf S (.dic ks vs) = .dic ks vs := rfl
def drO (l : Nat) : Option Ob → D
  | some (.lst xs) => .lst xs
  | some (.dic ks vs) => .dic ks vs
  | _ => .loc l
theorem drf_loc (l : Nat) : drf S (.loc l) = drO l S[l]? := by unfold drf drO; rfl
theorem drO_l (l : Nat) (xs : List D) : drO l (some (.lst xs)) = .lst xs := rfl
theorem bin_add_i (i j : Int) : binD .Add S (.int i) (.int j) = some (.int (i + j)) := rfl
theorem bin_add_s {s t : List Nat} (h : s.length + t.length ≤ 16777216) : binD .Add S (.str s) (.str t) = some (.str (s ++ t)) := if_pos h
theorem bin_add_t {s t : List D} (h : s.length + t.length ≤ 16777216) : binD .Add S (.tup s) (.tup t) = some (.tup (s ++ t)) := if_pos h
theorem bin_add_l {s t : List D} (h : s.length + t.length ≤ 16777216) : binD .Add S (.lst s) (.lst t) = some (.lst (s ++ t)) := if_pos h
def addO (a b : D) : Option D := match a, b with
    | .lst xs, .lst ys => if xs.length + ys.length ≤ 16777216 then some (.lst (xs ++ ys)) else none
    | _, _ => none
theorem addO_ok {xs ys : List D} (h : xs.length + ys.length ≤ 16777216) : addO (.lst xs) (.lst ys) = some (.lst (xs ++ ys)) := if_pos h
def addR (a b : D) : Option D := match a, b with
  | .int i, .int j => some (.int (i + j))
  | .str s, .str t => if s.length + t.length ≤ 16777216 then some (.str (s ++ t)) else none
  | .tup xs, .tup ys => if xs.length + ys.length ≤ 16777216 then some (.tup (xs ++ ys)) else none
  | .lst xs, .lst ys => if xs.length + ys.length ≤ 16777216 then some (.lst (xs ++ ys)) else none
  | _, _ => none
theorem bin_add_loc (l : Nat) (b : D) : binD .Add S (.loc l) b = addR (drO l S[l]?) (drf S b) := by rw [← drf_loc]; rfl
theorem addR_l {xs ys : List D} (h : xs.length + ys.length ≤ 16777216) : addR (.lst xs) (.lst ys) = some (.lst (xs ++ ys)) := if_pos h
theorem bin_sub_i (i j : Int) : binD .Sub S (.int i) (.int j) = some (.int (i - j)) := rfl
theorem bin_mul_i {i j : Int} (h : (-18446744073709551616 < i ∧ i < 18446744073709551616) ∨ (-18446744073709551616 < j ∧ j < 18446744073709551616)) : binD .Mult S (.int i) (.int j) = some (.int (i * j)) := if_pos (by
  unfold mulOk
  rcases h with ⟨h1, h2⟩ | ⟨h1, h2⟩ <;> simp [h1, h2])
theorem bin_mul_s {s : List Nat} {k : Int} (h : 0 ≤ k ∧ k ≤ 100000 ∧ s.length * k.toNat ≤ 16777216) : binD .Mult S (.str s) (.int k) = some (.str (List.replicate k.toNat s).flatten) := if_pos h
theorem bin_fdiv_i {i j : Int} (h : 0 < j ∧ j < 1073741824) : binD .FloorDiv S (.int i) (.int j) = some (.int (i / j)) := if_pos h
theorem bin_mod_i {i j : Int} (h : 0 < j) : binD .Mod S (.int i) (.int j) = some (.int (i % j)) := if_pos h
def idxR (a : D) (b : D) : Option D := match a with
  | .lst xs => (match b with
    | .int i => atI xs i
    | _ => none)
  | .tup xs => (match b with
    | .int i => atI xs i
    | _ => none)
  | .ro xs => (match b with
    | .int i => atI xs i
    | _ => none)
  | .str s => (match b with
    | .int i => if s.length ≤ 16777216 then (atI s i).map fun c => .str [c] else none
    | _ => none)
  | .dic ks vs => look ks vs b
  | _ => none
theorem idx_r (a b : D) : idxD S a b = idxR (drf S a) b := by unfold idxD idxR; rfl
theorem idxR_t (xs : List D) (i : Int) : idxR (.tup xs) (.int i) = atI xs i := rfl
theorem idxR_l (xs : List D) (i : Int) : idxR (.lst xs) (.int i) = atI xs i := rfl
theorem idxR_r (xs : List D) (i : Int) : idxR (.ro xs) (.int i) = atI xs i := rfl
theorem idxR_d (ks vs : List D) (i : D) : idxR (.dic ks vs) i = look ks vs i := rfl
theorem at_n {α : Type} (xs : List α) (j : Nat) : atI xs (j : Int) = xs[j]? := by
  unfold atI ixN
  rw [if_pos (by omega)]
  by_cases h : j < xs.length
  · rw [if_pos (by omega)]; simp
  · rw [if_neg (by omega), List.getElem?_eq_none (by omega)]; rfl
theorem at_0 {α : Type} (x : α) (xs : List α) : atI (x :: xs) 0 = some x := by simp [atI, ixN]
theorem at_1 {α : Type} (x y : α) (xs : List α) : atI (x :: y :: xs) 1 = some y := (at_n _ 1).trans rfl
theorem at_2 {α : Type} (x y z : α) (xs : List α) : atI (x :: y :: z :: xs) 2 = some z := (at_n _ 2).trans rfl
theorem at_3 {α : Type} (x y z u : α) (xs : List α) : atI (x :: y :: z :: u :: xs) 3 = some u := (at_n _ 3).trans rfl
theorem at_4 {α : Type} (x y z u v : α) (xs : List α) : atI (x :: y :: z :: u :: v :: xs) 4 = some v := (at_n _ 4).trans rfl
theorem at_5 {α : Type} (x y z u v w : α) (xs : List α) : atI (x :: y :: z :: u :: v :: w :: xs) 5 = some w := (at_n _ 5).trans rfl
theorem at_m1 {α : Type} (xs : List α) : atI xs (-1) = xs.getLast? := by
  cases h : xs.getLast? with
  | none => rw [List.getLast?_eq_none_iff] at h; subst h; rfl
  | some y =>
    obtain ⟨ys, rfl⟩ : ∃ ys, xs = ys ++ [y] := by
      rw [List.getLast?_eq_some_iff] at h; exact h
    exact atI_last ys y
theorem len_l (xs : List D) : bltD S .len [.lst xs] = some (.int xs.length) := rfl
theorem len_t (xs : List D) : bltD S .len [.tup xs] = some (.int xs.length) := rfl
theorem len_r (xs : List D) : bltD S .len [.ro xs] = some (.int xs.length) := rfl
theorem len_s {s : List Nat} (h : s.length ≤ 16777216) : bltD S .len [.str s] = some (.int s.length) := if_pos h
def lenR : D → Option D
  | .lst xs => some (.int xs.length)
  | .tup xs => some (.int xs.length)
  | .ro xs => some (.int xs.length)
  | .str s => if s.length ≤ 16777216 then some (.int s.length) else none
  | .dic ks _ => some (.int ks.length)
  | _ => none
theorem len_loc (l : Nat) : bltD S .len [.loc l] = lenR (drO l S[l]?) := by rw [← drf_loc]; rfl
theorem lenR_l (xs : List D) : lenR (.lst xs) = some (.int xs.length) := rfl
theorem str1_r (i : Int) (h : i.natAbs.log2 < 1920) : bltD S .str1 [.int i] = some (.str (Str.ofString (toString i)).cps.toList) := if_pos h
theorem int1_i (i : Int) : bltD S .int1 [.int i] = some (.int i) := rfl
theorem min2_i (i j : Int) : bltD S .min2 [.int i, .int j] = some (.int (if j < i then j else i)) := rfl
theorem max2_i (i j : Int) : bltD S .max2 [.int i, .int j] = some (.int (if j > i then j else i)) := rfl
theorem seqD_l (xs : List D) : seqD S (.lst xs) = some xs := rfl
theorem seqD_t (xs : List D) : seqD S (.tup xs) = some xs := rfl
theorem seqD_r (xs : List D) : seqD S (.ro xs) = some xs := rfl
def seqR : D → Option (List D)
  | .lst xs => some xs
  | .tup xs => some xs
  | .ro xs => some xs
  | _ => none
theorem seqD_loc (l : Nat) : seqD S (.loc l) = seqR (drO l S[l]?) := by rw [← drf_loc]; unfold seqD seqR; rfl
theorem seqR_l (xs : List D) : seqR (.lst xs) = some xs := rfl
theorem tup_q (a : D) : bltD S .tuple [a] = (seqD S a).map .tup := rfl
theorem lst_q (a : D) : bltD S .list [a] = (seqD S a).map .lst := rfl
theorem srcD_l (xs : List D) : srcD S (.lst xs) = some (xs, []) := rfl
theorem srcD_t (xs : List D) : srcD S (.tup xs) = some (xs, []) := rfl
theorem srcD_r (xs : List D) : srcD S (.ro xs) = some (xs, []) := rfl
theorem srcD_s (s : List Nat) : srcD S (.str s) = some (s.map fun c => .str [c], []) := rfl
theorem srcQ_l (xs : List D) : srcQ S (.lst xs) = some (xs, []) := rfl
theorem srcQ_t (xs : List D) : srcQ S (.tup xs) = some (xs, []) := rfl
def srcO (l : Nat) : Option Ob → Option Wk
  | some (.lst xs) => some (xs, [(l, xs)])
  | _ => none
theorem srcD_loc (l : Nat) : srcD S (.loc l) = srcO l S[l]? := by unfold srcD srcO; rfl
theorem srcO_l (l : Nat) (xs : List D) : srcO l (some (.lst xs)) = some (xs, [(l, xs)]) := rfl
theorem cmp_eq (a b : D) : cmpD .Eq S a b = (eqD S a b).map .bl := rfl
theorem cmp_ne (a b : D) : cmpD .NotEq S a b = (eqD S a b).map fun r => .bl (!r) := rfl
theorem cmp_isN (a : D) : cmpD .Is S a .non = some (.bl (isNon a)) := rfl
theorem cmp_isnN (a : D) : cmpD .IsNot S a .non = some (.bl (!isNon a)) := rfl
theorem isNon_n : isNon .non = true := rfl
theorem isNon_b (b : Bool) : isNon (.bl b) = false := rfl
theorem isNon_r (xs : List D) : isNon (.ro xs) = false := rfl
theorem isNon_d (ks vs : List D) : isNon (.dic ks vs) = false := rfl
theorem isNon_i (i : Int) : isNon (.int i) = false := rfl
theorem isNon_s (s : List Nat) : isNon (.str s) = false := rfl
theorem isNon_t (xs : List D) : isNon (.tup xs) = false := rfl
theorem isNon_l (xs : List D) : isNon (.lst xs) = false := rfl
theorem isNon_o (xs : Nat) : isNon (.loc xs) = false := rfl
theorem cmp_in (a b : D) : cmpD .In S a b = (inD S a b).map .bl := rfl
theorem cmp_nin (a b : D) : cmpD .NotIn S a b = (inD S a b).map fun r => .bl (!r) := rfl
theorem cmp_lt_i (i j : Int) : cmpD .Lt S (.int i) (.int j) = some (.bl (decide (i < j))) := rfl
theorem cmp_le_i (i j : Int) : cmpD .LtE S (.int i) (.int j) = some (.bl (decide (i ≤ j))) := rfl
theorem cmp_gt_i (i j : Int) : cmpD .Gt S (.int i) (.int j) = some (.bl (decide (j < i))) := rfl
theorem cmp_ge_i (i j : Int) : cmpD .GtE S (.int i) (.int j) = some (.bl (decide (j ≤ i))) := rfl
theorem cmp_le_s (s t : List Nat) : cmpD .LtE S (.str s) (.str t) = some (.bl (!decide (t < s))) := rfl
theorem cmp_lt_s (s t : List Nat) : cmpD .Lt S (.str s) (.str t) = some (.bl (decide (s < t))) := rfl
theorem eq_i (i j : Int) : eqD S (.int i) (.int j) = some (decide (i = j)) := rfl
theorem eq_s (s t : List Nat) : eqD S (.str s) (.str t) = some (eqS s t) := congrArg some (eqS_dec s t).symm
theorem eq_b (s t : Bool) : eqD S (.bl s) (.bl t) = some (decide (s = t)) := rfl
theorem eq_si (s : List Nat) (i : Int) : eqD S (.str s) (.int i) = some false := rfl
theorem eq_is (s : List Nat) (i : Int) : eqD S (.int i) (.str s) = some false := rfl
theorem tru_b (b : Bool) : truD S (.bl b) = some b := rfl
theorem tru_i (i : Int) : truD S (.int i) = some (i != 0) := rfl
theorem tru_n : truD S .non = some false := rfl
theorem isi_t (xs : List D) (T : String) : isiD S (.tup xs) T = some (T == "tuple") := rfl
theorem isi_l (xs : List D) (T : String) : isiD S (.lst xs) T = some (T == "list") := rfl
theorem isi_s (xs : List Nat) (T : String) : isiD S (.str xs) T = some (T == "str") := rfl
theorem isi_i (xs : Int) (T : String) : isiD S (.int xs) T = some (T == "int") := rfl
theorem isi_b (xs : Bool) (T : String) : isiD S (.bl xs) T = some (T == "bool" || T == "int") := rfl
theorem isiq_n (T : String) : isiD S .non T = some false := rfl
theorem ty_app (d : D) : tyM .append S d = (match drf S d with | .lst _ => true | _ => false) := by
  unfold tyM; cases drf S d <;> rfl
theorem isi_t_tuple (xs : List D) : isiD S (.tup xs) "tuple" = some true := rfl
theorem isi_t_list (xs : List D) : isiD S (.tup xs) "list" = some false := rfl
theorem isi_t_str (xs : List D) : isiD S (.tup xs) "str" = some false := rfl
theorem isi_t_int (xs : List D) : isiD S (.tup xs) "int" = some false := rfl
theorem isi_t_bool (xs : List D) : isiD S (.tup xs) "bool" = some false := rfl
theorem isi_l_tuple (xs : List D) : isiD S (.lst xs) "tuple" = some false := rfl
theorem isi_l_list (xs : List D) : isiD S (.lst xs) "list" = some true := rfl
theorem isi_l_str (xs : List D) : isiD S (.lst xs) "str" = some false := rfl
theorem isi_l_int (xs : List D) : isiD S (.lst xs) "int" = some false := rfl
theorem isi_l_bool (xs : List D) : isiD S (.lst xs) "bool" = some false := rfl
theorem isi_s_tuple (s : List Nat) : isiD S (.str s) "tuple" = some false := rfl
theorem isi_s_list (s : List Nat) : isiD S (.str s) "list" = some false := rfl
theorem isi_s_str (s : List Nat) : isiD S (.str s) "str" = some true := rfl
theorem isi_s_int (s : List Nat) : isiD S (.str s) "int" = some false := rfl
theorem isi_s_bool (s : List Nat) : isiD S (.str s) "bool" = some false := rfl
theorem isi_i_tuple (i : Int) : isiD S (.int i) "tuple" = some false := rfl
theorem isi_i_list (i : Int) : isiD S (.int i) "list" = some false := rfl
theorem isi_i_str (i : Int) : isiD S (.int i) "str" = some false := rfl
theorem isi_i_int (i : Int) : isiD S (.int i) "int" = some true := rfl
theorem isi_i_bool (i : Int) : isiD S (.int i) "bool" = some false := rfl
theorem isi_b_tuple (b : Bool) : isiD S (.bl b) "tuple" = some false := rfl
theorem isi_b_list (b : Bool) : isiD S (.bl b) "list" = some false := rfl
theorem isi_b_str (b : Bool) : isiD S (.bl b) "str" = some false := rfl
theorem isi_b_int (b : Bool) : isiD S (.bl b) "int" = some true := rfl
theorem isi_b_bool (b : Bool) : isiD S (.bl b) "bool" = some true := rfl
def isL : D → Bool
  | .lst _ => true
  | _ => false
theorem isL_l (xs : List D) : isL (.lst xs) = true := rfl
theorem ty_append (d : D) : tyM .append S d = isL (drf S d) := by unfold tyM isL; cases drf S d <;> rfl
theorem ty_extend (d : D) : tyM .extend S d = isL (drf S d) := by unfold tyM isL; cases drf S d <;> rfl
theorem ty_pop (d : D) : tyM .pop S d = isL (drf S d) := by unfold tyM isL; cases drf S d <;> rfl
theorem ty_index (xs : List D) : tyM .index S (.tup xs) = true := rfl
theorem ty_join (s : List Nat) : tyM .join S (.str s) = true := rfl
def appO (l : Nat) (y : D) : Option Ob → Res D
  | some (.lst xs) => if xs.length < 16777216 then .ok .non (S.set l (.lst (xs ++ [y]))) else .bad
  | _ => .bad
theorem m_append (l : Nat) (y : D) : mthD .append (.loc l) [y] S = appO S l y S[l]? := by unfold mthD appO; rfl
theorem appO_ok {l : Nat} {y : D} {xs : List D} (h : xs.length < 16777216) : appO S l y (some (.lst xs)) = .ok .non (S.set l (.lst (xs ++ [y]))) := if_pos h
def extO (l : Nat) : Option Ob → D → Res D
  | some (.lst xs), .lst zs => if xs.length + zs.length ≤ 16777216 then .ok .non (S.set l (.lst (xs ++ zs))) else .bad
  | _, _ => .bad
theorem m_extend (l : Nat) (y : D) : mthD .extend (.loc l) [y] S = extO S l S[l]? (drf S y) := by unfold mthD extO; rfl
theorem extO_ok {l : Nat} {xs zs : List D} (h : xs.length + zs.length ≤ 16777216) : extO S l (some (.lst xs)) (.lst zs) = .ok .non (S.set l (.lst (xs ++ zs))) := if_pos h
def popO (l : Nat) : Option Ob → Res D
  | some (.lst xs) => (match xs[xs.length - 1]? with
        | some y => .ok y (S.set l (.lst xs.dropLast))
        | none => .bad)
  | _ => .bad
theorem m_pop (l : Nat) : mthD .pop (.loc l) [] S = popO S l S[l]? := by unfold mthD popO; rfl
theorem popO_ok (l : Nat) (xs : List D) (y : D) : popO S l (some (.lst (xs ++ [y]))) = .ok y (S.set l (.lst xs)) := by
  unfold popO; simp
def slcR (a : D) (lo hi : Option Int) : Option D := match a with
  | .lst xs => some (.lst (cutG xs lo hi))
  | .ro xs => some (.lst (cutG xs lo hi))
  | .tup xs => some (.tup (cutG xs lo hi))
  | .str s => if s.length ≤ 16777216 then some (.str (cutG s lo hi)) else none
  | _ => none
theorem slc_r (a : D) (lo hi : Option Int) : slcD S a lo hi = slcR (drf S a) lo hi := rfl
theorem slcR_t (xs : List D) (lo hi : Option Int) : slcR (.tup xs) lo hi = some (.tup (cutG xs lo hi)) := rfl
theorem slcR_l (xs : List D) (lo hi : Option Int) : slcR (.lst xs) lo hi = some (.lst (cutG xs lo hi)) := rfl
theorem slcR_r (xs : List D) (lo hi : Option Int) : slcR (.ro xs) lo hi = some (.lst (cutG xs lo hi)) := rfl
theorem slcR_s {s : List Nat} (lo hi : Option Int) (h : s.length ≤ 16777216) : slcR (.str s) lo hi = some (.str (cutG s lo hi)) := if_pos h
theorem sIx_pos (n d : Nat) {i : Int} (h : 0 ≤ i) : HT.sIx n d (some i) = min i.toNat n := by
  show (if i < 0 then _ else _) = _
  rw [if_neg (by omega)]
theorem cut_hi {α : Type} (xs : List α) {i : Int} (h : 0 ≤ i) : cutG xs none (some i) = xs.take i.toNat := by
  unfold cutG
  rw [sIx_pos _ _ h]
  show (xs.drop 0).take (min i.toNat xs.length - 0) = _
  rw [List.drop_zero, Nat.sub_zero]
  by_cases hh : i.toNat ≤ xs.length
  · rw [Nat.min_eq_left hh]
  · rw [Nat.min_eq_right (by omega), List.take_length, List.take_of_length_le (by omega)]
theorem cut_lo {α : Type} (xs : List α) {i : Int} (h : 0 ≤ i) : cutG xs (some i) none = xs.drop i.toNat := by
  unfold cutG
  rw [sIx_pos _ _ h]
  show (xs.drop (min i.toNat xs.length)).take (xs.length - min i.toNat xs.length) = _
  by_cases hh : i.toNat ≤ xs.length
  · rw [Nat.min_eq_left hh, List.take_of_length_le (by rw [List.length_drop]; omega)]
  · rw [Nat.min_eq_right (by omega), List.drop_length, List.drop_of_length_le (by omega)]; simp
theorem cut_m1 {α : Type} (xs : List α) : cutG xs none (some (-1)) = xs.take (xs.length - 1) := by
  unfold cutG
  show (xs.drop 0).take ((-1 + (xs.length : Int)).toNat - 0) = _
  rw [List.drop_zero, Nat.sub_zero]
  congr 1
  omega
theorem cast_0 : ((0 : Nat) : Int) = 0 := rfl
theorem cast_1 : ((1 : Nat) : Int) = 1 := rfl
theorem toNat_s (k : Nat) : ((k : Int) + 1).toNat = k + 1 := by omega
def srtR : D → Option D
  | .lst xs => if purs xs && alikeB xs && tupsB xs && decide (deps xs ≤ 100) then some (.lst (srtD xs)) else none
  | _ => none
theorem srt_r (a : D) : bltD S .sorted [a] = srtR (drf S a) := by
  rfl
theorem srtR_ok {xs : List D} (h1 : purs xs = true) (h2 : alikeB xs = true) (h3 : tupsB xs = true) (h4 : deps xs ≤ 100) : srtR (.lst xs) = some (.lst (srtD xs)) := by
  show (if (purs xs && alikeB xs && tupsB xs && decide (deps xs ≤ 100)) = true then some (D.lst (srtD xs)) else none) = _
  rw [h1, h2, h3, decide_eq_true h4]; rfl
theorem in_str1 (c : Nat) (z : List Nat) : inD S (.str [c]) (.str z) = some (decide (c ∈ z)) := rfl
theorem any_strs (x : List Nat) : ∀ ns : List (List Nat), ((ns.map D.str).any fun y => deqv y (.str x)) = ns.any fun n => n == x
  | [] => rfl
  | n :: ns => by rw [List.map_cons, List.any_cons, any_strs x ns, List.any_cons, deqv]
theorem purs_strs : ∀ ns : List (List Nat), purs (ns.map D.str) = true
  | [] => rfl
  | n :: ns => by rw [List.map_cons, purs, purs_strs ns]; rfl
theorem in_tup (x : List Nat) (ns : List (List Nat)) : inD S (.str x) (.tup (ns.map D.str)) = some (ns.any fun n => n == x) := by
  show (if _ then some _ else none) = _
  rw [purs_strs, any_strs]; rfl
theorem mapM_strs : ∀ ns : List (List Nat), (ns.map D.str).mapM asSt = some ns
  | [] => rfl
  | n :: ns => by rw [List.map_cons, List.mapM_cons, mapM_strs ns]; rfl
def ixO : Option Nat → Res D
  | some j => .ok (.int j) S
  | none => .bad
theorem ixO_s (j : Nat) : ixO S (some j) = .ok (.int j) S := rfl
theorem m_index (z : List Nat) (ns : List (List Nat)) : mthD .index (.tup (ns.map D.str)) [.str z] S = ixO S (ns.findIdx? fun x => decide (x = z)) := by
  show (match (ns.map D.str).mapM asSt with
      | some zs => (match zs.findIdx? fun x => decide (x = z) with
        | some j => Res.ok (D.int j) S
        | none => Res.bad)
      | none => Res.bad) = _
  rw [mapM_strs]; rfl
def putR (l : Nat) (i : Int) (v : D) : Option Ob → Option Sto
  | some (.lst xs) => (ixN xs.length i).map fun j => S.set l (.lst (xs.set j v))
  | _ => none
theorem put_loc (l : Nat) (i : Int) (v : D) : putD S (.loc l) (.int i) v = putR S l i v S[l]? := by unfold putD putR; rfl
theorem putR_n {l j : Nat} {v : D} {xs : List D} (h : j < xs.length) : putR S l (j : Int) v (some (.lst xs)) = some (S.set l (.lst (xs.set j v))) := by
  show (ixN xs.length (j : Int)).map _ = _
  unfold ixN
  rw [if_pos (by omega), if_pos (by omega)]
  simp
theorem putR_0 {l : Nat} {v : D} {x : D} {xs : List D} : putR S l 0 v (some (.lst (x :: xs))) = some (S.set l (.lst (v :: xs))) := by
  have := putR_n S (l := l) (j := 0) (v := v) (xs := x :: xs) (by simp)
  simpa using this
/-- the store behind a def's beginning -/
theorem st_get0 (o : Ob) (T : Sto) : (S ++ o :: T)[S.length]? = some o := by simp
theorem st_get1 (o p : Ob) (T : Sto) : (S ++ o :: p :: T)[S.length + 1]? = some p := by simp
theorem st_get2 (o p q : Ob) (T : Sto) : (S ++ o :: p :: q :: T)[S.length + 2]? = some q := by simp
theorem st_get3 (o p q r : Ob) (T : Sto) : (S ++ o :: p :: q :: r :: T)[S.length + 3]? = some r := by simp
theorem st_set0 (o o' : Ob) (T : Sto) : (S ++ o :: T).set S.length o' = S ++ o' :: T := by simp
theorem st_set1 (o p o' : Ob) (T : Sto) : (S ++ o :: p :: T).set (S.length + 1) o' = S ++ o :: o' :: T := by simp
theorem st_set2 (o p q o' : Ob) (T : Sto) : (S ++ o :: p :: q :: T).set (S.length + 2) o' = S ++ o :: p :: o' :: T := by simp
theorem st_app (T U : Sto) : (S ++ T) ++ U = S ++ (T ++ U) := List.append_assoc ..
theorem st_len (o : Ob) (T : Sto) : (S ++ o :: T).length = S.length + (T.length + 1) := by simp
end
end Ev
/-! Sy2: loops, comprehensions, leaving a def. -/
namespace Ev
open PySem L2
theorem stands_nil (S : Sto) : stands [] S := fun _ h => nomatch h
theorem gdS_nil (S : Sto) (r : SR) : gdS (stands [] S) r = r := gdS_pos (stands_nil S)
theorem gd_nil {α : Type} (S : Sto) (r : Res α) : gd (stands [] S) r = r := gd_pos (stands_nil S)
/-! ### comprehensions -/
theorem compF_map {β : Type} {f : D → List D → Sto → Res (List D)} {g : β → List D} {e : β → D} {S : Sto} : ∀ (ys : List β) (acc : List D),
    (∀ y ∈ ys, ∀ acc : List D, acc.length + (g y).length ≤ 16777216 → f (e y) acc S = .ok (acc ++ g y) S) → acc.length + (ys.flatMap g).length ≤ 16777216 → compF [] f (ys.map e) acc S = .ok (acc ++ ys.flatMap g) S
  | [], acc, _, _ => by rw [List.map_nil, compF, gd_nil]; simp
  | y :: ys, acc, h, hl => by
    rw [List.map_cons, compF, gd_nil, h y (by simp) acc (by simp only [List.flatMap_cons, List.length_append] at hl; omega), Res.bd_ok, compF_map ys _ (fun z hz => h z (by simp [hz])) (by simp only [List.flatMap_cons, List.length_append] at hl ⊢; omega)]
    simp
/-- over plain data -/
theorem compF_mapD {f : D → List D → Sto → Res (List D)} {g : D → List D} {S : Sto} (xs acc : List D)
    (h : ∀ x ∈ xs, ∀ acc : List D, acc.length + (g x).length ≤ 16777216 → f x acc S = .ok (acc ++ g x) S) (hl : acc.length + (xs.flatMap g).length ≤ 16777216) : compF [] f xs acc S = .ok (acc ++ xs.flatMap g) S := by
  have := compF_map (e := id) (g := g) (f := f) (S := S) xs acc h hl
  simpa using this
theorem flatMap_one {α β : Type} (g : α → β) : ∀ xs : List α, (xs.flatMap fun x => [g x]) = xs.map g
  | [] => rfl
  | x :: xs => by rw [List.flatMap_cons, flatMap_one g xs]; rfl
/-- one item each -/
theorem compF_one {β : Type} {f : D → List D → Sto → Res (List D)} {g : β → D} {e : β → D} {S : Sto} (ys : List β)
    (h : ∀ y ∈ ys, ∀ acc : List D, acc.length < 16777216 → f (e y) acc S = .ok (acc ++ [g y]) S) (hl : ys.length ≤ 16777216) : compF [] f (ys.map e) [] S = .ok (ys.map g) S := by
  have := compF_map (e := e) (g := fun y => [g y]) (f := f) (S := S) ys [] (fun y hy acc ha => h y hy acc (by rw [List.length_singleton] at ha; omega)) (by rw [flatMap_one]; simpa using hl)
  rw [flatMap_one] at this
  simpa using this
theorem flatMap_if {α β : Type} (p : α → Bool) (g : α → β) : ∀ xs : List α, (xs.flatMap fun x => if p x = true then [g x] else []) = (xs.filter p).map g
  | [] => rfl
  | x :: xs => by
    rw [List.flatMap_cons, flatMap_if p g xs, List.filter_cons]
    by_cases h : p x = true <;> simp [h]
/-- those for which p holds -/
theorem compF_if {β : Type} {f : D → List D → Sto → Res (List D)} {p : β → Bool} {g : β → D} {e : β → D} {S : Sto} (ys : List β)
    (h : ∀ y ∈ ys, ∀ acc : List D, acc.length < 16777216 → f (e y) acc S = .ok (if p y = true then acc ++ [g y] else acc) S) (hl : ys.length ≤ 16777216) : compF [] f (ys.map e) [] S = .ok ((ys.filter p).map g) S := by
  have hk : ((ys.filter p).map g).length ≤ 16777216 := by rw [List.length_map]; exact Nat.le_trans (List.length_filter_le _ _) hl
  have key : ∀ (ys : List β) (acc : List D), (∀ y ∈ ys, ∀ acc : List D, acc.length < 16777216 → f (e y) acc S = .ok (if p y = true then acc ++ [g y] else acc) S) → acc.length + ys.length ≤ 16777216 → compF [] f (ys.map e) acc S = .ok (acc ++ (ys.filter p).map g) S := by
    intro ys
    induction ys with
    | nil => intro acc _ _; rw [List.map_nil, compF, gd_nil]; simp
    | cons y ys ih =>
      intro acc h hl
      rw [List.length_cons] at hl
      rw [List.map_cons, compF, gd_nil, h y (by simp) acc (by omega), Res.bd_ok, List.filter_cons]
      by_cases hp : p y = true
      · rw [if_pos hp, if_pos hp, ih _ (fun z hz => h z (by simp [hz])) (by rw [List.length_append]; simp; omega)]
        simp
      · rw [if_neg hp, if_neg hp, ih _ (fun z hz => h z (by simp [hz])) (by omega)]
  have := key ys [] h (by simpa using hl)
  simpa using this
/-- an element in the slots that an item makes -/
noncomputable def evOn (cx : Cxt) (e : CE) (t : Bool) (S : Sto) : Option Loc → Res D
  | some l => ev cx e t l S
  | none => .bad
theorem evOn_s (cx : Cxt) (e : CE) (t : Bool) (S : Sto) (l : Loc) : evOn cx e t S (some l) = ev cx e t l S := rfl
theorem comp0_one {β : Type} {cx : Cxt} {own : List Nat} {tg : Tg} {elt : CE} {ls : Loc} {S : Sto} {e g : β → D} {ys : List β}
    (h : ∀ y ∈ ys, evOn cx elt false S (asg tg (e y) (wipeL ls own)) = .ok (g y) S) (hl : ys.length ≤ 16777216) : comp0 cx own tg elt ls (ys.map e, []) S = .ok (ys.map g) S := by
  unfold comp0
  refine compF_one ys (fun y hy acc ha => ?_) hl
  have h1 := h y hy
  cases ea : asg tg (e y) (wipeL ls own) with
  | none => rw [ea] at h1; cases h1
  | some l =>
    rw [ea, evOn_s] at h1
    rw [turn0_s, h1, addK_k, addA_ok ha]
theorem comp1_if {β : Type} {cx : Cxt} {own : List Nat} {tg : Tg} {c elt : CE} {ls : Loc} {S : Sto} {e g : β → D} {p : β → Bool} {ys : List β}
    (h : ∀ y ∈ ys, evOn cx c true S (asg tg (e y) (wipeL ls own)) = .ok (.bl (p y)) S) (h' : ∀ y ∈ ys, p y = true → evOn cx elt false S (asg tg (e y) (wipeL ls own)) = .ok (g y) S) (hl : ys.length ≤ 16777216) : comp1 cx own tg c elt ls (ys.map e, []) S = .ok ((ys.filter p).map g) S := by
  unfold comp1
  refine compF_if ys (fun y hy acc ha => ?_) hl
  have h1 := h y hy
  have h2 := h' y hy
  cases ea : asg tg (e y) (wipeL ls own) with
  | none => rw [ea] at h1; cases h1
  | some l =>
    rw [ea, evOn_s] at h1 h2
    rw [turn1_s, h1, ifCK_k]
    cases hp : p y with
    | true => rw [ifC_t, h2 hp, addK_k, addA_ok ha]; rfl
    | false => rw [ifC_f]; rfl
/-- .. the elements may change the store -/
def Res.okP {α : Type} (r : Res α) (Q : α → Sto → Prop) : Prop := match r with
  | .ok a S => Q a S
  | _ => False
theorem okP_ok {α : Type} (a : α) (S : Sto) (Q : α → Sto → Prop) : (Res.ok a S).okP Q = Q a S := rfl
theorem use_comp0 {β : Type} {P : Res (List D) → Prop} {cx : Cxt} {own : List Nat} {tg : Tg} {elt : CE} {ls : Loc} {S : Sto} {e : β → D} (R : List β → List D → Sto → Prop) {ys : List β} (start : R [] [] S)
    (turn : ∀ pre y post acc S, ys = pre ++ y :: post → R pre acc S → (evOn cx elt false S (asg tg (e y) (wipeL ls own))).okP fun d S' => R (pre ++ [y]) (acc ++ [d]) S') (hl : ys.length ≤ 16777216) (hacc : ∀ pre acc S, R pre acc S → acc.length = pre.length)
    (k : ∀ acc S', R ys acc S' → P (.ok acc S')) : P (comp0 cx own tg elt ls (ys.map e, []) S) := by
  have key : ∀ (post pre : List β) (acc : List D) (S : Sto), ys = pre ++ post → R pre acc S → ∃ acc' S', compF [] (fun x acc S2 => turn0 cx elt acc S2 (asg tg x (wipeL ls own))) (post.map e) acc S = .ok acc' S' ∧ R ys acc' S' := by
    intro post
    induction post with
    | nil => intro pre acc S he r; rw [List.append_nil] at he; subst he; exact ⟨acc, S, by rw [List.map_nil, compF, gd_nil], r⟩
    | cons y post ih =>
      intro pre acc S he r
      have z := turn pre y post acc S he r
      have hlen := hacc pre acc S r
      have hl2 := congrArg List.length he
      rw [List.length_append, List.length_cons] at hl2
      cases ea : asg tg (e y) (wipeL ls own) with
      | none => rw [ea] at z; exact z.elim
      | some l =>
        rw [ea, evOn_s] at z
        cases ev1 : ev cx elt false l S with
        | ok d S' =>
          rw [ev1] at z
          obtain ⟨acc', S2, h, r2⟩ := ih (pre ++ [y]) (acc ++ [d]) S' (by rw [he]; simp) z
          refine ⟨acc', S2, ?_, r2⟩
          rw [List.map_cons, compF, gd_nil, ea, turn0_s, ev1, addK_k, addA_ok (by omega), Res.bd_ok]
          exact h
        | exc _ _ _ => rw [ev1] at z; exact z.elim
        | bad => rw [ev1] at z; exact z.elim
  obtain ⟨acc', S', h, r⟩ := key ys [] [] S rfl start
  unfold comp0
  rw [h]
  exact k _ _ r
/-! ### for -/
/-- a loop that goes through to its end: R holds of what was taken, the slots, the store -/
theorem forF_rel {f : D → Loc → Sto → SR} {R : List D → Loc → Sto → Prop} {xs : List D} {ls : Loc} {S : Sto} (start : R [] ls S)
    (turn : ∀ pre x post ls S, xs = pre ++ x :: post → R pre ls S → ∃ ls' S', (f x ls S = .nx ls' S' ∨ f x ls S = .ct ls' S') ∧ R (pre ++ [x]) ls' S') : ∃ ls' S', forF [] f xs ls S = .nx ls' S' ∧ R xs ls' S' := by
  have key : ∀ (post pre : List D) (ls : Loc) (S : Sto), xs = pre ++ post → R pre ls S → ∃ ls' S', forF [] f post ls S = .nx ls' S' ∧ R xs ls' S' := by
    intro post
    induction post with
    | nil => intro pre ls S e r; refine ⟨ls, S, by rw [forF, gdS_nil], ?_⟩; rw [e, List.append_nil]; exact r
    | cons x post ih =>
      intro pre ls S e r
      obtain ⟨ls', S', h, r'⟩ := turn pre x post ls S e r
      obtain ⟨l2, S2, h2, r2⟩ := ih (pre ++ [x]) ls' S' (by rw [e]; simp) r'
      refine ⟨l2, S2, ?_, r2⟩
      rw [forF, gdS_nil]
      rcases h with h | h <;> (rw [h]; exact h2)
  exact key xs [] ls S rfl start
/-- .. over encoded items -/
theorem forF_relE {β : Type} {e : β → D} {f : D → Loc → Sto → SR} {R : List β → Loc → Sto → Prop} {ys : List β} {ls : Loc} {S : Sto} (start : R [] ls S)
    (turn : ∀ pre y post ls S, ys = pre ++ y :: post → R pre ls S → ∃ ls' S', (f (e y) ls S = .nx ls' S' ∨ f (e y) ls S = .ct ls' S') ∧ R (pre ++ [y]) ls' S') : ∃ ls' S', forF [] f (ys.map e) ls S = .nx ls' S' ∧ R ys ls' S' := by
  have key : ∀ (post pre : List β) (ls : Loc) (S : Sto), ys = pre ++ post → R pre ls S → ∃ ls' S', forF [] f (post.map e) ls S = .nx ls' S' ∧ R ys ls' S' := by
    intro post
    induction post with
    | nil => intro pre ls S e r; refine ⟨ls, S, by rw [List.map_nil, forF, gdS_nil], ?_⟩; rw [e, List.append_nil]; exact r
    | cons x post ih =>
      intro pre ls S e r
      obtain ⟨ls', S', h, r'⟩ := turn pre x post ls S e r
      obtain ⟨l2, S2, h2, r2⟩ := ih (pre ++ [x]) ls' S' (by rw [e]; simp) r'
      refine ⟨l2, S2, ?_, r2⟩
      rw [List.map_cons, forF, gdS_nil]
      rcases h with h | h <;> (rw [h]; exact h2)
  exact key ys [] ls S rfl start
/-- a loop that may hand back: N at its end, T at a return -/
theorem forF_end {β : Type} {e : β → D} {f : D → Loc → Sto → SR} {R : List β → Loc → Sto → Prop} {T : D → Sto → Prop} {ys : List β} {ls : Loc} {S : Sto} (start : R [] ls S)
    (turn : ∀ pre y post ls S, ys = pre ++ y :: post → R pre ls S → (∃ ls' S', (f (e y) ls S = .nx ls' S' ∨ f (e y) ls S = .ct ls' S') ∧ R (pre ++ [y]) ls' S') ∨ ∃ d S', f (e y) ls S = .rt d S' ∧ T d S') :
    (∃ ls' S', forF [] f (ys.map e) ls S = .nx ls' S' ∧ R ys ls' S') ∨ ∃ d S', forF [] f (ys.map e) ls S = .rt d S' ∧ T d S' := by
  have key : ∀ (post pre : List β) (ls : Loc) (S : Sto), ys = pre ++ post → R pre ls S → (∃ ls' S', forF [] f (post.map e) ls S = .nx ls' S' ∧ R ys ls' S') ∨ ∃ d S', forF [] f (post.map e) ls S = .rt d S' ∧ T d S' := by
    intro post
    induction post with
    | nil => intro pre ls S e r; refine .inl ⟨ls, S, by rw [List.map_nil, forF, gdS_nil], ?_⟩; rw [e, List.append_nil]; exact r
    | cons x post ih =>
      intro pre ls S e r
      rcases turn pre x post ls S e r with ⟨ls', S', h, r'⟩ | ⟨d, S', h, t⟩
      · rcases ih (pre ++ [x]) ls' S' (by rw [e]; simp) r' with ⟨l2, S2, h2, r2⟩ | ⟨d, S2, h2, t⟩
        · refine .inl ⟨l2, S2, ?_, r2⟩
          rw [List.map_cons, forF, gdS_nil]
          rcases h with h | h <;> (rw [h]; exact h2)
        · refine .inr ⟨d, S2, ?_, t⟩
          rw [List.map_cons, forF, gdS_nil]
          rcases h with h | h <;> (rw [h]; exact h2)
      · refine .inr ⟨d, S', ?_, t⟩
        rw [List.map_cons, forF, gdS_nil, h]; rfl
  exact key ys [] ls S rfl start
theorem forB_rel {β : Type} {cx : Cxt} {tg : Tg} {b : CB} {e : β → D} {R : List β → Loc → Sto → Prop} {ys : List β} {ls : Loc} {S : Sto} (start : R [] ls S)
    (turn : ∀ pre y post ls S, ys = pre ++ y :: post → R pre ls S → ∃ ls' S', (turnS cx b S (asg tg (e y) ls) = .nx ls' S' ∨ turnS cx b S (asg tg (e y) ls) = .ct ls' S') ∧ R (pre ++ [y]) ls' S') : ∃ ls' S', forB cx tg b (ys.map e, []) ls S = .nx ls' S' ∧ R ys ls' S' :=
  forF_relE start turn
theorem forB_end {β : Type} {cx : Cxt} {tg : Tg} {b : CB} {e : β → D} {R : List β → Loc → Sto → Prop} {T : D → Sto → Prop} {ys : List β} {ls : Loc} {S : Sto} (start : R [] ls S)
    (turn : ∀ pre y post ls S, ys = pre ++ y :: post → R pre ls S → (∃ ls' S', (turnS cx b S (asg tg (e y) ls) = .nx ls' S' ∨ turnS cx b S (asg tg (e y) ls) = .ct ls' S') ∧ R (pre ++ [y]) ls' S') ∨ ∃ d S', turnS cx b S (asg tg (e y) ls) = .rt d S' ∧ T d S') :
    (∃ ls' S', forB cx tg b (ys.map e, []) ls S = .nx ls' S' ∧ R ys ls' S') ∨ ∃ d S', forB cx tg b (ys.map e, []) ls S = .rt d S' ∧ T d S' :=
  forF_end start turn
/-- a turn goes on, R holding behind it -/
def SR.goes (r : SR) (R : Loc → Sto → Prop) : Prop := match r with
  | .nx l S => R l S
  | .ct l S => R l S
  | _ => False
theorem goes_nx (l : Loc) (S : Sto) (R : Loc → Sto → Prop) : (SR.nx l S).goes R = R l S := rfl
theorem goes_ct (l : Loc) (S : Sto) (R : Loc → Sto → Prop) : (SR.ct l S).goes R = R l S := rfl
/-- .. or hands back with T -/
def SR.ends (r : SR) (R : Loc → Sto → Prop) (T : D → Sto → Prop) : Prop := match r with
  | .nx l S => R l S
  | .ct l S => R l S
  | .rt d S => T d S
  | _ => False
theorem ends_nx (l : Loc) (S : Sto) (R : Loc → Sto → Prop) (T : D → Sto → Prop) : (SR.nx l S).ends R T = R l S := rfl
theorem ends_ct (l : Loc) (S : Sto) (R : Loc → Sto → Prop) (T : D → Sto → Prop) : (SR.ct l S).ends R T = R l S := rfl
theorem ends_rt (d : D) (S : Sto) (R : Loc → Sto → Prop) (T : D → Sto → Prop) : (SR.rt d S).ends R T = T d S := rfl
/-- a loop's end taken where it stands -/
theorem use_for {β : Type} {P : SR → Prop} {cx : Cxt} {tg : Tg} {b : CB} {e : β → D} (R : List β → Loc → Sto → Prop) {ys : List β} {ls : Loc} {S : Sto} (start : R [] ls S)
    (turn : ∀ pre y post ls S, ys = pre ++ y :: post → R pre ls S → (turnS cx b S (asg tg (e y) ls)).goes (R (pre ++ [y]))) (k : ∀ ls' S', R ys ls' S' → P (.nx ls' S')) : P (forB cx tg b (ys.map e, []) ls S) := by
  obtain ⟨ls', S', h, r⟩ := forB_rel (cx := cx) (tg := tg) (b := b) (e := e) start fun pre y post ls S he r => by
    have z := turn pre y post ls S he r
    cases h : turnS cx b S (asg tg (e y) ls) <;> rw [h] at z <;> first | exact z.elim | exact ⟨_, _, .inl rfl, z⟩ | exact ⟨_, _, .inr rfl, z⟩
  rw [h]; exact k _ _ r
theorem use_forE {β : Type} {P : SR → Prop} {cx : Cxt} {tg : Tg} {b : CB} {e : β → D} (R : List β → Loc → Sto → Prop) (T : D → Sto → Prop) {ys : List β} {ls : Loc} {S : Sto} (start : R [] ls S)
    (turn : ∀ pre y post ls S, ys = pre ++ y :: post → R pre ls S → (turnS cx b S (asg tg (e y) ls)).ends (R (pre ++ [y])) T) (k : ∀ ls' S', R ys ls' S' → P (.nx ls' S')) (kr : ∀ d S', T d S' → P (.rt d S')) : P (forB cx tg b (ys.map e, []) ls S) := by
  rcases forB_end (cx := cx) (tg := tg) (b := b) (e := e) (T := T) start fun pre y post ls S he r => by
    have z := turn pre y post ls S he r
    cases h : turnS cx b S (asg tg (e y) ls) <;> rw [h] at z <;> first | exact z.elim | exact .inl ⟨_, _, .inl rfl, z⟩ | exact .inl ⟨_, _, .inr rfl, z⟩ | exact .inr ⟨_, _, rfl, z⟩
    with ⟨ls', S', h, r⟩ | ⟨d, S', h, t⟩
  · rw [h]; exact k _ _ r
  · rw [h]; exact kr _ _ t
/-- a value given at once -/
theorem step_set {P : SR → Prop} {cx : Cxt} {tg : Tg} {e : CE} {b : CB} {ls : Loc} {S : Sto} (d : D) (S' : Sto) (h : ev cx e false ls S = .ok d S') (k : P (sqB cx b (nxO S' (asg tg d ls)))) : P (evB cx (.cons (.set tg e) b) ls S) := by
  rw [b_cons, s_set, h, sSet_k]; exact k
/-- a test given at once -/
theorem step_ifs {P : SR → Prop} {cx : Cxt} {c : CE} {a a' b : CB} {ls : Loc} {S : Sto} (t : Bool) (S' : Sto) (h : ev cx c true ls S = .ok (.bl t) S') (kt : t = true → P (sqB cx b (evB cx a ls S'))) (kf : t = false → P (sqB cx b (evB cx a' ls S'))) : P (evB cx (.cons (.ifs c a a') b) ls S) := by
  rw [b_cons, s_ifs, h, sIf_k]
  cases t with
  | true => exact kt rfl
  | false => exact kf rfl
/-- a test, what it may be -/
theorem step_ifsX {P : SR → Prop} {cx : Cxt} {c : CE} {a a' b : CB} {ls : Loc} {S : Sto} (Q : Bool → Sto → Prop) (h : (ev cx c true ls S).okP fun d S' => ∃ t, d = .bl t ∧ Q t S') (kt : ∀ S', Q true S' → P (sqB cx b (evB cx a ls S'))) (kf : ∀ S', Q false S' → P (sqB cx b (evB cx a' ls S'))) : P (evB cx (.cons (.ifs c a a') b) ls S) := by
  rw [b_cons, s_ifs]
  cases e : ev cx c true ls S with
  | ok d S' =>
    rw [e] at h
    obtain ⟨t, rfl, q⟩ := h
    rw [sIf_k]
    cases t with
    | true => exact kt S' q
    | false => exact kf S' q
  | exc _ _ _ => rw [e] at h; exact h.elim
  | bad => rw [e] at h; exact h.elim
theorem step_setX {P : SR → Prop} {cx : Cxt} {tg : Tg} {e : CE} {b : CB} {ls : Loc} {S : Sto} (Q : D → Sto → Prop) (h : (ev cx e false ls S).okP Q) (k : ∀ d S', Q d S' → P (sqB cx b (nxO S' (asg tg d ls)))) : P (evB cx (.cons (.set tg e) b) ls S) := by
  rw [b_cons, s_set]
  cases e1 : ev cx e false ls S with
  | ok d S' => rw [e1] at h; rw [sSet_k]; exact k d S' h
  | exc _ _ _ => rw [e1] at h; exact h.elim
  | bad => rw [e1] at h; exact h.elim
theorem step_retX {P : SR → Prop} {cx : Cxt} {e : CE} {b : CB} {ls : Loc} {S : Sto} (Q : D → Sto → Prop) (h : (ev cx e false ls S).okP Q) (k : ∀ d S', Q d S' → P (.rt d S')) : P (evB cx (.cons (.ret e) b) ls S) := by
  rw [b_cons, s_ret]
  cases e1 : ev cx e false ls S with
  | ok d S' => rw [e1] at h; exact k d S' h
  | exc _ _ _ => rw [e1] at h; exact h.elim
  | bad => rw [e1] at h; exact h.elim
theorem lev {a m : Nat} (h : a + 1 ≤ m) : ∃ k, m = k + 1 := ⟨m - 1, by omega⟩
/-! ### while -/
theorem whlF_rel {c : Loc → Sto → Res D} {b : Loc → Sto → SR} {R : Nat → Loc → Sto → Prop} {T : Loc → Sto → Prop} : ∀ (n k : Nat) (ls : Loc) (S : Sto), k < n → R k ls S →
    (∀ k ls S, R k ls S → (∃ S', c ls S = .ok (.bl false) S' ∧ T ls S') ∨ (∃ S', c ls S = .ok (.bl true) S' ∧ ∃ ls2 S2 j, (b ls S' = .nx ls2 S2 ∨ b ls S' = .ct ls2 S2) ∧ j < k ∧ R j ls2 S2)) →
    ∃ ls' S', whlF c b n ls S = .nx ls' S' ∧ T ls' S'
  | 0, k, ls, S, h, _, _ => by omega
  | n + 1, k, ls, S, h, r, st => by
    rcases st k ls S r with ⟨S', e, t⟩ | ⟨S', e, ls2, S2, j, hb, hj, r2⟩
    · exact ⟨ls, S', by rw [whlF, e]; rfl, t⟩
    · obtain ⟨l3, S3, e3, t3⟩ := whlF_rel n j ls2 S2 (by omega) r2 st
      refine ⟨l3, S3, ?_, t3⟩
      rw [whlF, e, Res.sd_ok]
      rcases hb with hb | hb <;> (show SR.lp (b ls S') _ = _; rw [hb]; exact e3)
theorem use_whl {P : SR → Prop} {cx : Cxt} {c : CE} {b : CB} {R : Nat → Loc → Sto → Prop} {T : Loc → Sto → Prop} {n k : Nat} {ls : Loc} {S : Sto} (hk : k < n) (r : R k ls S)
    (st : ∀ k ls S, R k ls S → (∃ S', ev cx c true ls S = .ok (.bl false) S' ∧ T ls S') ∨ (∃ S', ev cx c true ls S = .ok (.bl true) S' ∧ ∃ ls2 S2 j, (evB cx b ls S' = .nx ls2 S2 ∨ evB cx b ls S' = .ct ls2 S2) ∧ j < k ∧ R j ls2 S2))
    (q : ∀ ls' S', T ls' S' → P (.nx ls' S')) : P (whlB cx c b n ls S) := by
  obtain ⟨ls', S', h, t⟩ := whlF_rel (c := fun l s => ev cx c true l s) (b := fun l s => evB cx b l s) n k ls S hk r st
  unfold whlB
  rw [h]; exact q _ _ t
/-- .. where the test leaves the store as it is -/
theorem use_whl2 {P : SR → Prop} {cx : Cxt} {c : CE} {b : CB} (R : Nat → Loc → Sto → Prop) (T : Loc → Sto → Prop) {n : Nat} (k : Nat) {ls : Loc} {S : Sto} (hk : k < n) (r : R k ls S)
    (st : ∀ k ls S, R k ls S → ∃ t : Bool, ev cx c true ls S = .ok (.bl t) S ∧ (t = false → T ls S) ∧ (t = true → (evB cx b ls S).goes fun l s => ∃ j, j < k ∧ R j l s))
    (q : ∀ ls' S', T ls' S' → P (.nx ls' S')) : P (whlB cx c b n ls S) := by
  refine use_whl (R := R) (T := T) hk r (fun k ls S r => ?_) q
  obtain ⟨t, e, hf, ht⟩ := st k ls S r
  cases t with
  | false => exact .inl ⟨S, e, hf rfl⟩
  | true =>
    have z := ht rfl
    refine .inr ⟨S, e, ?_⟩
    cases h : evB cx b ls S <;> rw [h] at z <;> first | exact z.elim | (obtain ⟨j, hj, rj⟩ := z; exact ⟨_, _, j, .inl rfl, hj, rj⟩) | (obtain ⟨j, hj, rj⟩ := z; exact ⟨_, _, j, .inr rfl, hj, rj⟩)
/-! ### leaving -/
theorem take_app (S T : Sto) : (S ++ T).take S.length = S := by simp
theorem oldOk_app (S T : Sto) : oldOk S (S ++ T) := ⟨by simp, fun l h => .inl (by rw [List.getElem?_append_left h])⟩
mutual
theorem bel_mono {n m : Nat} (h : n ≤ m) : ∀ d : D, d.bel n = true → d.bel m = true
  | .non, _ => rfl
  | .bl _, _ => rfl
  | .int _, _ => rfl
  | .str _, _ => rfl
  | .tup xs, e => bels_mono h xs e
  | .lst xs, e => bels_mono h xs e
  | .ro xs, e => bels_mono h xs e
  | .dic _ vs, e => bels_mono h vs e
  | .loc l, e => decide_eq_true (Nat.lt_of_lt_of_le (of_decide_eq_true e) h)
theorem bels_mono {n m : Nat} (h : n ≤ m) : ∀ ds : List D, bels n ds = true → bels m ds = true
  | [], _ => rfl
  | x :: xs, e => by
    rw [bels, Bool.and_eq_true] at e ⊢
    exact ⟨bel_mono h x e.1, bels_mono h xs e.2⟩
end
theorem bels_all {n : Nat} : ∀ {ds : List D}, bels n ds = true ↔ ∀ d ∈ ds, d.bel n = true
  | [] => by simp [bels]
  | x :: xs => by rw [bels, Bool.and_eq_true, bels_all]; simp
theorem belsq_map {α : Type} {n : Nat} {f : α → D} {xs : List α} (h : ∀ x ∈ xs, (f x).bel n = true) : bels n (xs.map f) = true := bels_all.mpr fun d hd => by
  obtain ⟨x, hx, rfl⟩ := List.mem_map.mp hd; exact h x hx
theorem thaw_bel {n : Nat} {S : Sto} : ∀ (k : Nat) (d : D), d.bel n = true → thaw n S k d = d
  | 0, d, _ => rfl
  | k + 1, .non, _ => rfl
  | k + 1, .bl _, _ => rfl
  | k + 1, .int _, _ => rfl
  | k + 1, .str _, _ => rfl
  | k + 1, .ro xs, _ => rfl
  | k + 1, .dic _ vs, _ => rfl
  | k + 1, .tup xs, e => by
    rw [thaw]; congr 1
    have e' : bels n xs = true := e
    rw [bels_all] at e'
    conv => rhs; rw [← List.map_id xs]
    exact List.map_congr_left fun x hx => thaw_bel k x (e' x hx)
  | k + 1, .lst xs, e => by
    rw [thaw]; congr 1
    have e' : bels n xs = true := e
    rw [bels_all] at e'
    conv => rhs; rw [← List.map_id xs]
    exact List.map_congr_left fun x hx => thaw_bel k x (e' x hx)
  | k + 1, .loc l, e => by rw [thaw, if_pos (of_decide_eq_true e)]
theorem thaws_bel {n k : Nat} {S : Sto} {xs : List D} (h : bels n xs = true) : xs.map (thaw n S k) = xs := by
  conv => rhs; rw [← List.map_id xs]
  exact List.map_congr_left fun x hx => thaw_bel k x (bels_all.mp h x hx)
/-- leaving with a value that holds no new list -/
theorem leave_bel {k : Nat} {S T : Sto} {d : D} (h : d.bel S.length = true) : leave (.trim k) S (.rt d (S ++ T)) = .ok d S := by
  unfold leave
  dsimp only
  rw [thaw_bel k d h, gd_pos ⟨oldOk_app S T, h⟩, take_app]
theorem leave_bel0 {k : Nat} {S : Sto} {d : D} (h : d.bel S.length = true) : leave (.trim k) S (.rt d S) = .ok d S := by
  have := leave_bel (k := k) (T := []) h
  simpa using this
/-- leaving with a new list -/
theorem leave_loc {k l : Nat} {S T : Sto} {xs : List D} (h : bels S.length xs = true) (hl : S.length ≤ l) (he : (S ++ T)[l]? = some (.lst xs)) : leave (.trim (k + 1)) S (.rt (.loc l) (S ++ T)) = .ok (.lst xs) S := by
  have e : thaw S.length (S ++ T) (k + 1) (.loc l) = .lst xs := by
    rw [thaw, if_neg (by omega), he]
    dsimp only
    rw [thaws_bel h]
  unfold leave
  dsimp only
  rw [e, gd_pos ⟨oldOk_app S T, h⟩, take_app]
theorem leave_thaw {k : Nat} {S T : Sto} {d d' : D} (e : thaw S.length (S ++ T) k d = d') (h : d'.bel S.length = true) : leave (.trim k) S (.rt d (S ++ T)) = .ok d' S := by
  unfold leave
  dsimp only
  rw [e, gd_pos ⟨oldOk_app S T, h⟩, take_app]
theorem rngL0 (n : Nat) : rngL 0 n = (List.range n).map fun (k : Nat) => D.int k := by
  unfold rngL
  exact List.map_congr_left fun k _ => by rw [Int.zero_add]
theorem any_ints (k : Nat) : ∀ xs : List Nat, ((xs.map fun (x : Nat) => D.int x).any fun y => deqv y (.int k)) = decide (k ∈ xs)
  | [] => rfl
  | x :: xs => by
    rw [List.map_cons, List.any_cons, any_ints k xs, deqv]
    by_cases h : x = k
    · subst h; simp
    · have : ¬ (x : Int) = k := by omega
      have h' : ¬ k = x := fun e => h e.symm
      simp [this, h']
theorem purs_ints : ∀ xs : List Nat, purs (xs.map fun (x : Nat) => D.int x) = true
  | [] => rfl
  | x :: xs => by rw [List.map_cons, purs, purs_ints xs]; rfl
theorem in_ints (S : Sto) (k : Nat) (xs : List Nat) : inD S (.int k) (.lst (xs.map fun (x : Nat) => D.int x)) = some (decide (k ∈ xs)) := by
  show (if _ then some _ else none) = _
  rw [purs_ints, any_ints]; rfl
theorem sum_ints {α : Type} (f : α → Int) (xs : List α) (S : Sto) : bltD S .sum [.lst (xs.map fun x => .int (f x))] = some (.int (xs.map f).sum) := by
  show ((xs.map fun x => D.int (f x)).mapM asIn).map _ = _
  have : (xs.map fun x => D.int (f x)).mapM asIn = some (xs.map f) := by
    induction xs with
    | nil => rfl
    | cons x xs ih => rw [List.map_cons, List.mapM_cons, ih]; rfl
  rw [this]; rfl
end Ev
/-! Ty: typed data of templates and their encodings. -/
namespace Ev
open PySem L2
abbrev Tx := List Nat
inductive Part where
  | fld (k : Nat) (a b : Tx)
  | row (a s : Tx) (l : Option Tx) (b : Tx) (ps : List Part)
  | eit (ps : List Part)
def eO : Option Tx → D
  | none => .non
  | some t => .str t
theorem eO_none : eO none = .non := rfl
theorem eO_some (t : Tx) : eO (some t) = .str t := rfl
/-- "field", "row", "either" -/
abbrev sF : List Nat := [102, 105, 101, 108, 100]
abbrev sR : List Nat := [114, 111, 119]
abbrev sE : List Nat := [101, 105, 116, 104, 101, 114]
mutual
def Part.e : Part → D
  | .fld k a b => .tup [.str sF, .int k, .str a, .str b]
  | .row a s l b ps => .tup [.str sR, .str a, .str s, eO l, .str b, .tup (eps ps)]
  | .eit ps => .tup [.str sE, .tup (eps ps)]
def eps : List Part → List D
  | [] => []
  | p :: ps => p.e :: eps ps
end
theorem eps_map : ∀ ps : List Part, eps ps = ps.map Part.e
  | [] => rfl
  | p :: ps => by rw [eps, List.map_cons, eps_map ps]
theorem fld_e (k : Nat) (a b : Tx) : (Part.fld k a b).e = .tup [.str sF, .int k, .str a, .str b] := by rw [Part.e]
theorem row_e (a s : Tx) (l : Option Tx) (b : Tx) (ps : List Part) : (Part.row a s l b ps).e = .tup [.str sR, .str a, .str s, eO l, .str b, .tup (ps.map Part.e)] := by rw [Part.e, eps_map]
theorem eit_e (ps : List Part) : (Part.eit ps).e = .tup [.str sE, .tup (ps.map Part.e)] := by rw [Part.e, eps_map]
def Part.ahead : Part → Tx
  | .fld _ a _ => a
  | .row a _ _ _ _ => a
  | .eit _ => []
def Part.behind : Part → Tx
  | .fld _ _ b => b
  | .row _ _ _ b _ => b
  | .eit _ => []
mutual
def Part.flds : Part → List Nat
  | .fld k _ _ => [k]
  | .row _ _ _ _ ps => fldss ps
  | .eit ps => fldss ps
def fldss : List Part → List Nat
  | [] => []
  | p :: ps => p.flds ++ fldss ps
end
theorem fldss_eq : ∀ ps : List Part, fldss ps = ps.flatMap Part.flds
  | [] => rfl
  | p :: ps => by rw [fldss, List.flatMap_cons, fldss_eq ps]
mutual
def Part.dp : Part → Nat
  | .fld _ _ _ => 0
  | .row _ _ _ _ ps => dps ps + 1
  | .eit ps => dps ps + 1
def dps : List Part → Nat
  | [] => 0
  | p :: ps => max p.dp (dps ps)
end
theorem dp_le : ∀ {ps : List Part} {p : Part}, p ∈ ps → p.dp ≤ dps ps
  | [], _, h => nomatch h
  | q :: ps, p, h => by
    rw [dps]
    rcases List.mem_cons.mp h with rfl | h
    · omega
    · have := dp_le h; omega
/-- induction over parts, the list's items at once -/
theorem Part.ind {P : Part → Prop} (hf : ∀ k a b, P (.fld k a b)) (hr : ∀ a s l b ps, (∀ p ∈ ps, P p) → P (.row a s l b ps)) (he : ∀ ps, (∀ p ∈ ps, P p) → P (.eit ps)) (p : Part) : P p :=
  Part.rec (motive_1 := P) (motive_2 := fun ps => ∀ p ∈ ps, P p) hf (fun a s l b ps h => hr a s l b ps h) (fun ps h => he ps h) (fun p hp => nomatch hp) (fun p ps h hs q hq => by
    rcases List.mem_cons.mp hq with rfl | hq
    · exact h
    · exact hs q hq) p
/-! no list of the store within -/
mutual
theorem Part.bel (n : Nat) : ∀ p : Part, p.e.bel n = true
  | .fld k a b => rfl
  | .row a s l b ps => by
    rw [Part.e, D.bel]
    cases l <;> simp [bels, D.bel, eO, eps_bel n ps]
  | .eit ps => by rw [Part.e, D.bel]; simp [bels, D.bel, eps_bel n ps]
theorem eps_bel (n : Nat) : ∀ ps : List Part, bels n (eps ps) = true
  | [] => rfl
  | p :: ps => by rw [eps, bels, Part.bel n p, eps_bel n ps]; rfl
end
/-! ### templates -/
structure Fld where
  nm : Tx
  kd : Tx
  mo : Int
structure Tpl where
  fs : List Fld
  pt : Part
  no : Tx
def Fld.e (f : Fld) : D := .tup [.str f.nm, .str f.kd, .int f.mo]
theorem fld3_e (f : Fld) : f.e = .tup [.str f.nm, .str f.kd, .int f.mo] := rfl
def Tpl.e (t : Tpl) : D := .tup [.tup (t.fs.map Fld.e), t.pt.e, .str t.no]
theorem tpl_e (t : Tpl) : t.e = .tup [.tup (t.fs.map Fld.e), t.pt.e, .str t.no] := rfl
theorem Fld.bel (n : Nat) (f : Fld) : f.e.bel n = true := rfl
theorem flds_bel (n : Nat) (fs : List Fld) : bels n (fs.map Fld.e) = true := bels_all.mpr fun d h => by
  obtain ⟨f, _, rfl⟩ := List.mem_map.mp h; rfl
theorem Tpl.bel (n : Nat) (t : Tpl) : t.e.bel n = true := by
  show (bels n (t.fs.map Fld.e) && (t.pt.e.bel n && (true && true))) = true
  rw [flds_bel, Part.bel]; rfl
/-- a field's greatest length -/
def Tpl.mo (t : Tpl) (k : Nat) : Int := ((t.fs[k]?).map Fld.mo).getD 0
mutual
/-- fields below n, short texts, no empty lists -/
def Part.ok (n : Nat) : Part → Prop
  | .fld k a b => k < n ∧ a.length ≤ 12 ∧ b.length ≤ 12
  | .row a s l b ps => a.length ≤ 12 ∧ s.length ≤ 12 ∧ (l.getD s).length ≤ 12 ∧ b.length ≤ 12 ∧ ps ≠ [] ∧ ps.length ≤ 60 ∧ oks n ps
  | .eit ps => ps ≠ [] ∧ ps.length ≤ 60 ∧ oks n ps
def oks (n : Nat) : List Part → Prop
  | [] => True
  | p :: ps => p.ok n ∧ oks n ps
end
theorem oks_all {n : Nat} : ∀ {ps : List Part}, oks n ps ↔ ∀ p ∈ ps, p.ok n
  | [] => by simp [oks]
  | p :: ps => by rw [oks, oks_all]; simp
theorem row_ok {n : Nat} {a s : Tx} {l : Option Tx} {b : Tx} {ps : List Part} : (Part.row a s l b ps).ok n ↔ a.length ≤ 12 ∧ s.length ≤ 12 ∧ (l.getD s).length ≤ 12 ∧ b.length ≤ 12 ∧ ps ≠ [] ∧ ps.length ≤ 60 ∧ ∀ p ∈ ps, p.ok n := by rw [Part.ok, oks_all]
theorem eit_ok {n : Nat} {ps : List Part} : (Part.eit ps).ok n ↔ ps ≠ [] ∧ ps.length ≤ 60 ∧ ∀ p ∈ ps, p.ok n := by rw [Part.ok, oks_all]
theorem ahead_ok {n : Nat} : ∀ {p : Part}, p.ok n → p.ahead.length ≤ 12 ∧ p.behind.length ≤ 12
  | .fld _ _ _, h => by rw [Part.ok] at h; exact ⟨h.2.1, h.2.2⟩
  | .row _ _ _ _ _, h => by rw [row_ok] at h; exact ⟨h.1, h.2.2.2.1⟩
  | .eit _, _ => ⟨by simp [Part.ahead], by simp [Part.behind]⟩
mutual
def Part.size : Part → Nat
  | .fld _ _ _ => 1
  | .row _ _ _ _ ps => sizes ps + 1
  | .eit ps => sizes ps + 1
def sizes : List Part → Nat
  | [] => 0
  | p :: ps => p.size + sizes ps
end
theorem size_le : ∀ {ps : List Part} {p : Part}, p ∈ ps → p.size ≤ sizes ps
  | [], _, h => nomatch h
  | q :: ps, p, h => by
    rw [sizes]
    rcases List.mem_cons.mp h with rfl | h
    · omega
    · have := size_le h; omega
/-! ### fields -/
abbrev sLet : List Nat := [108, 101, 116, 116, 101, 114, 115]
abbrev sDig : List Nat := [100, 105, 103, 105, 116, 115]
abbrev sSig : List Nat := [115, 105, 103, 110, 115]
def Fld.ok (f : Fld) : Prop := (f.kd = sLet ∨ f.kd = sDig ∨ f.kd = sSig) ∧ 1 ≤ f.mo ∧ f.mo ≤ 40 ∧ f.nm ≠ [] ∧ f.nm.length ≤ 8
/-- the sign that stands for a kind -/
def sgnK (kd : Tx) : Tx := if kd = sDig then [48] else [97]
structure Tpl.ok (t : Tpl) : Prop where
  nf : t.fs.length ≤ 24
  f : ∀ f ∈ t.fs, f.ok
  nd : (t.fs.map Fld.nm).Nodup
  p : t.pt.ok t.fs.length
  fl : t.pt.flds = List.range t.fs.length
  d : t.pt.dp ≤ 5
  no : t.no.length ≤ 12
  sz : t.pt.size ≤ 1000
theorem Tpl.ok.nl {t : Tpl} (h : t.ok) : t.pt.flds.length ≤ 100 := by rw [h.fl, List.length_range]; have := h.nf; omega
theorem Tpl.ok.ndf {t : Tpl} (h : t.ok) : t.pt.flds.Nodup := by rw [h.fl]; exact List.nodup_range
theorem Tpl.ok.at {t : Tpl} (h : t.ok) {k : Nat} (hk : k < t.fs.length) : (t.fs[k]).ok := h.f _ (List.getElem_mem hk)
theorem Tpl.mo_at {t : Tpl} {k : Nat} (h : k < t.fs.length) : (t.fs.map Fld.e)[k]? = some (t.fs[k]).e := by rw [List.getElem?_map, List.getElem?_eq_getElem h]; rfl
theorem Tpl.mo_eq {t : Tpl} {k : Nat} (h : k < t.fs.length) : t.mo k = (t.fs[k]).mo := by unfold Tpl.mo; rw [List.getElem?_eq_getElem h]; rfl
/-- a field's name -/
def Tpl.nm (t : Tpl) (k : Nat) : Tx := ((t.fs[k]?).map Fld.nm).getD []
def Tpl.kd (t : Tpl) (k : Nat) : Tx := ((t.fs[k]?).map Fld.kd).getD []
theorem Tpl.nm_eq {t : Tpl} {k : Nat} (h : k < t.fs.length) : t.nm k = (t.fs[k]).nm := by unfold Tpl.nm; rw [List.getElem?_eq_getElem h]; rfl
theorem Tpl.kd_eq {t : Tpl} {k : Nat} (h : k < t.fs.length) : t.kd k = (t.fs[k]).kd := by unfold Tpl.kd; rw [List.getElem?_eq_getElem h]; rfl
theorem Tpl.at {t : Tpl} {k : Nat} (h : k < t.fs.length) : (t.fs.map Fld.e)[k]? = some (.tup [.str (t.nm k), .str (t.kd k), .int (t.mo k)]) := by rw [Tpl.mo_at h, Tpl.nm_eq h, Tpl.kd_eq h, Tpl.mo_eq h]; rfl
/-- the same with another greatest length -/
def Tpl.wm (t : Tpl) (k : Nat) (x : Int) : Tpl := { t with fs := t.fs.take k ++ [⟨t.nm k, t.kd k, x⟩] ++ t.fs.drop (k + 1) }
theorem wm_len (t : Tpl) {k : Nat} (hk : k < t.fs.length) (x : Int) : (t.wm k x).fs.length = t.fs.length := by
  simp [Tpl.wm]; omega
theorem wm_at (t : Tpl) {k : Nat} (hk : k < t.fs.length) (x : Int) (j : Nat) : (t.wm k x).fs[j]? = if j = k then some ⟨t.nm k, t.kd k, x⟩ else t.fs[j]? := by
  unfold Tpl.wm
  dsimp only
  by_cases h : j < k
  · rw [if_neg (by omega), List.getElem?_append_left (by simp; omega), List.getElem?_append_left (by simp; omega), List.getElem?_take_of_lt h]
  · by_cases h2 : j = k
    · subst h2
      rw [if_pos rfl, List.getElem?_append_left (by simp; omega), List.getElem?_append_right (by simp; omega)]
      simp [Nat.min_eq_left (Nat.le_of_lt hk)]
    · rw [if_neg h2, List.getElem?_append_right (by simp; omega), List.getElem?_drop]
      congr 1
      simp [Nat.min_eq_left (Nat.le_of_lt hk)]
      omega
theorem wm_mo (t : Tpl) {k : Nat} (hk : k < t.fs.length) (x : Int) (j : Nat) : (t.wm k x).mo j = if j = k then x else t.mo j := by
  unfold Tpl.mo
  rw [wm_at t hk]
  split <;> rfl
theorem wm_nm (t : Tpl) {k : Nat} (hk : k < t.fs.length) (x : Int) (j : Nat) : (t.wm k x).nm j = t.nm j := by
  unfold Tpl.nm
  rw [wm_at t hk]
  split
  · rename_i h; subst h
    rw [List.getElem?_eq_getElem hk]
    show t.nm j = _
    rw [Tpl.nm_eq hk]; rfl
  · rfl
theorem wm_kd (t : Tpl) {k : Nat} (hk : k < t.fs.length) (x : Int) (j : Nat) : (t.wm k x).kd j = t.kd j := by
  unfold Tpl.kd
  rw [wm_at t hk]
  split
  · rename_i h; subst h
    rw [List.getElem?_eq_getElem hk]
    show t.kd j = _
    rw [Tpl.kd_eq hk]; rfl
  · rfl
theorem wm_nms (t : Tpl) {k : Nat} (hk : k < t.fs.length) (x : Int) : (t.wm k x).fs.map Fld.nm = t.fs.map Fld.nm := by
  apply List.ext_getElem?
  intro j
  rw [List.getElem?_map, List.getElem?_map, wm_at t hk]
  split
  · rename_i h; subst h
    rw [List.getElem?_eq_getElem hk, Tpl.nm_eq hk]; rfl
  · rfl
theorem wm_ok {t : Tpl} (ht : t.ok) {k : Nat} (hk : k < t.fs.length) {x : Int} (h1 : 1 ≤ x) (h2 : x ≤ 40) : (t.wm k x).ok where
  nf := by rw [wm_len t hk]; exact ht.nf
  f := fun f hf => by
    obtain ⟨j, hj⟩ := List.getElem?_of_mem hf
    rw [wm_at t hk] at hj
    split at hj
    · cases hj
      have := ht.at hk
      exact ⟨by rw [Tpl.kd_eq hk]; exact this.1, h1, h2, by rw [Tpl.nm_eq hk]; exact this.2.2.2.1, by rw [Tpl.nm_eq hk]; exact this.2.2.2.2⟩
    · exact ht.f f (List.mem_of_getElem? hj)
  nd := by rw [wm_nms t hk]; exact ht.nd
  p := by rw [wm_len t hk]; exact ht.p
  fl := by rw [wm_len t hk]; exact ht.fl
  d := ht.d
  no := ht.no
  sz := ht.sz
theorem Tpl.ok.mo1 {t : Tpl} (ht : t.ok) {k : Nat} (hk : k < t.fs.length) : 1 ≤ t.mo k ∧ t.mo k ≤ 40 := by
  rw [Tpl.mo_eq hk]; exact ⟨(ht.at hk).2.1, (ht.at hk).2.2.1⟩
/-- a pair of a record that gives a field its longest value -/
def recP (t : Tpl) (k : Nat) : Tx × Tx := (t.nm k, (List.replicate (t.mo k).toNat (sgnK (t.kd k))).flatten)
abbrev eP (p : Tx × Tx) : D := .tup [.str p.1, .str p.2]
end Ev
/-! Mb: the longest lines, in plain Lean. -/
namespace Ev
open PySem L2
/-- what a row prints between its parts at most -/
def sepsOf (s : Tx) (l : Option Tx) (n : Nat) : Int := if 1 < n then s.length * ((n : Int) - 2) + (l.getD s).length else 0
abbrev eK (k : Nat) : D := .int k
abbrev eB (t : Int × List Nat) : D := .tup [.int t.1, .lst (t.2.map eK)]
/-! ### the greatest of pairs -/
def ltB (a b : Int × List Nat) : Bool := dlt (eB a) (eB b)
def maxB (x : Int × List Nat) (xs : List (Int × List Nat)) : Int × List Nat := xs.foldl (fun a y => if ltB a y = true then y else a) x
theorem foldM_eB : ∀ (xs : List (Int × List Nat)) (x : Int × List Nat), foldM true (eB x) (xs.map eB) = eB (maxB x xs)
  | [], x => rfl
  | y :: xs, x => by
    have := foldM_eB xs (if ltB x y = true then y else x)
    unfold foldM maxB at this ⊢
    rw [List.map_cons, List.foldl_cons, List.foldl_cons, ← this]
    congr 1
    rw [if_pos rfl]
    show (if ltB x y = true then eB y else eB x) = _
    by_cases h : ltB x y = true
    · rw [if_pos h, if_pos h]
    · rw [if_neg h, if_neg h]
theorem ltB_t {a b : Int × List Nat} (h : ltB a b = true) : a.1 ≤ b.1 := by
  unfold ltB dlt at h
  rw [show (eB a).toPy = .tuple [.int a.1, (D.lst (a.2.map eK)).toPy] from rfl, show (eB b).toPy = .tuple [.int b.1, (D.lst (b.2.map eK)).toPy] from rfl, PySem.W.dataLt_tuple, PySem.W.toks_all_cons (.int a.1), PySem.W.toks_all_cons (.int b.1)] at h
  rw [PyProof.Rows.lex_self] at h
  rw [show PySem.W.keyToks (.int a.1) = [.inl a.1] from rfl, show PySem.W.keyToks (.int b.1) = [.inl b.1] from rfl, List.cons_append, List.cons_append, PyProof.Rows.lex_true] at h
  rcases h with h | ⟨h, _⟩
  · have : a.1 < b.1 := of_decide_eq_true h
    omega
  · have : ¬ b.1 < a.1 := of_decide_eq_false h
    omega
theorem ltB_f {a b : Int × List Nat} (h : ltB a b = false) : b.1 ≤ a.1 := by
  unfold ltB dlt at h
  rw [show (eB a).toPy = .tuple [.int a.1, (D.lst (a.2.map eK)).toPy] from rfl, show (eB b).toPy = .tuple [.int b.1, (D.lst (b.2.map eK)).toPy] from rfl, PySem.W.dataLt_tuple, PySem.W.toks_all_cons (.int a.1), PySem.W.toks_all_cons (.int b.1)] at h
  rw [PyProof.Rows.lex_self] at h
  rw [show PySem.W.keyToks (.int a.1) = [.inl a.1] from rfl, show PySem.W.keyToks (.int b.1) = [.inl b.1] from rfl, List.cons_append, List.cons_append, PyProof.Rows.lex_cons] at h
  rw [Bool.or_eq_false_iff] at h
  have : ¬ a.1 < b.1 := of_decide_eq_false h.1
  omega
theorem maxB_mem : ∀ (xs : List (Int × List Nat)) (x : Int × List Nat), maxB x xs ∈ x :: xs
  | [], x => by simp [maxB]
  | y :: xs, x => by
    have := maxB_mem xs (if ltB x y = true then y else x)
    show maxB (if ltB x y = true then y else x) xs ∈ _
    rcases List.mem_cons.mp this with h | h
    · rw [h]; split <;> simp
    · simp [h]
theorem maxB_ge : ∀ (xs : List (Int × List Nat)) (x : Int × List Nat), ∀ z ∈ x :: xs, z.1 ≤ (maxB x xs).1
  | [], x, z, hz => by simp at hz; subst hz; simp [maxB]
  | y :: xs, x, z, hz => by
    show z.1 ≤ (maxB (if ltB x y = true then y else x) xs).1
    have ih := maxB_ge xs (if ltB x y = true then y else x)
    have h0 := ih _ (List.mem_cons_self ..)
    rcases List.mem_cons.mp hz with rfl | hz
    · cases h : ltB z y with
      | true => rw [h] at h0; have := ltB_t h; simp only [if_true] at h0 ⊢; omega
      | false => rw [h] at h0; simpa using h0
    · rcases List.mem_cons.mp hz with rfl | hz
      · cases h : ltB x z with
        | true => rw [h] at h0; simpa using h0
        | false => have := ltB_f h; rw [h] at h0; simp at h0; simp; omega
      · exact ih z (by simp [hz])
/-! ### max of the encoded pairs, and of ints -/
theorem eB_pur (t : Int × List Nat) : (eB t).pur = true := by
  show (true && ((D.lst (t.2.map eK)).pur && true)) = true
  have : ∀ xs : List Nat, purs (xs.map eK) = true := by intro xs; induction xs with
    | nil => rfl
    | cons x xs ih => rw [List.map_cons, purs, ih]; rfl
  rw [show (D.lst (t.2.map eK)).pur = purs (t.2.map eK) from by rw [D.pur], this]; rfl
theorem purs_map {α : Type} {f : α → D} (h : ∀ x, (f x).pur = true) : ∀ xs : List α, purs (xs.map f) = true
  | [] => rfl
  | x :: xs => by rw [List.map_cons, purs, h, purs_map h xs]; rfl
theorem deps_map {α : Type} {f : α → D} {n : Nat} (h : ∀ x, (f x).dep ≤ n) : ∀ xs : List α, deps (xs.map f) ≤ n
  | [] => by simp [deps]
  | x :: xs => by rw [List.map_cons, deps]; exact Nat.max_le.mpr ⟨h x, deps_map h xs⟩
theorem eB_dep (t : Int × List Nat) : (eB t).dep ≤ 2 := by
  show deps [.int t.1, .lst (t.2.map eK)] + 1 ≤ 2
  have := deps_map (f := eK) (n := 0) (fun _ => by simp [D.dep]) t.2
  simp only [deps, D.dep]
  omega
theorem alike_ints : ∀ xs ys : List Nat, PySem.W.alikeAll (toPys (xs.map eK)) (toPys (ys.map eK)) = true
  | [], _ => by rw [List.map_nil, toPys]; unfold PySem.W.alikeAll; rfl
  | _ :: _, [] => rfl
  | x :: xs, y :: ys => by
    rw [List.map_cons, List.map_cons, toPys, toPys, PySem.W.alikeAll, alike_ints xs ys]; rfl
theorem alikeB_map {α : Type} {f : α → D} (h : ∀ x y, PySem.W.alike (f x).toPy (f y).toPy = true) (xs : List α) : alikeB (xs.map f) = true := by
  unfold alikeB
  rw [List.all_eq_true]
  intro d hd
  rw [List.all_eq_true]
  intro e he
  obtain ⟨x, _, rfl⟩ := List.mem_map.mp hd
  obtain ⟨y, _, rfl⟩ := List.mem_map.mp he
  exact h x y
theorem nonB_map {α : Type} {f : α → D} (h : ∀ x, isNon (f x) = false) (xs : List α) : nonB (xs.map f) = true := by
  unfold nonB
  rw [List.all_eq_true]
  intro d hd
  obtain ⟨x, _, rfl⟩ := List.mem_map.mp hd
  rw [h]; rfl
theorem max_eB (S : Sto) (x : Int × List Nat) (xs : List (Int × List Nat)) : bltD S .max1 [.lst ((x :: xs).map eB)] = some (eB (maxB x xs)) := by
  show (if (purs ((x :: xs).map eB) && alikeB ((x :: xs).map eB) && nonB ((x :: xs).map eB) && decide (deps ((x :: xs).map eB) ≤ 100) && nlst (foldM true (eB x) (xs.map eB))) = true then some (foldM true (eB x) (xs.map eB)) else none) = _
  rw [purs_map eB_pur, alikeB_map (fun a b => by
    show PySem.W.alike (.tuple [.int a.1, (D.lst (a.2.map eK)).toPy]) (.tuple [.int b.1, (D.lst (b.2.map eK)).toPy]) = true
    have := alike_ints a.2 b.2
    simp [PySem.W.alike, PySem.W.alikeAll, D.toPy, this]), nonB_map (fun _ => rfl), decide_eq_true (Nat.le_trans (deps_map eB_dep _) (by decide)), foldM_eB]
  rfl
/-- max of ints -/
def maxI (x : Int) (xs : List Int) : Int := xs.foldl (fun a y => if a < y then y else a) x
theorem foldM_int : ∀ (xs : List Int) (x : Int), foldM true (.int x) (xs.map D.int) = .int (maxI x xs)
  | [], x => rfl
  | y :: xs, x => by
    have := foldM_int xs (if x < y then y else x)
    unfold foldM maxI at this ⊢
    rw [List.map_cons, List.foldl_cons, List.foldl_cons, ← this]
    congr 1
    rw [if_pos rfl]
    show (if PySem.W.dataLt (.int x) (.int y) = true then D.int y else .int x) = _
    rw [PySem.W.dataLt_int]
    by_cases h : x < y <;> simp [h]
theorem max_int (S : Sto) (x : Int) (xs : List Int) : bltD S .max1 [.lst ((x :: xs).map D.int)] = some (.int (maxI x xs)) := by
  show (if (purs ((x :: xs).map D.int) && alikeB ((x :: xs).map D.int) && nonB ((x :: xs).map D.int) && decide (deps ((x :: xs).map D.int) ≤ 100) && nlst (foldM true (.int x) (xs.map D.int))) = true then some (foldM true (.int x) (xs.map D.int)) else none) = _
  rw [purs_map (fun _ => rfl), alikeB_map (fun a b => by simp [PySem.W.alike, D.toPy]), nonB_map (fun _ => rfl), decide_eq_true (Nat.le_trans (deps_map (n := 0) (fun _ => by simp [D.dep]) _) (by decide)), foldM_int]
  rfl
theorem maxI_mem : ∀ (xs : List Int) (x : Int), maxI x xs ∈ x :: xs
  | [], x => by simp [maxI]
  | y :: xs, x => by
    have := maxI_mem xs (if x < y then y else x)
    show maxI (if x < y then y else x) xs ∈ _
    rcases List.mem_cons.mp this with h | h
    · rw [h]; split <;> simp
    · simp [h]
theorem maxI_ge : ∀ (xs : List Int) (x : Int), ∀ z ∈ x :: xs, z ≤ maxI x xs
  | [], x, z, hz => by simp at hz; subst hz; simp [maxI]
  | y :: xs, x, z, hz => by
    show z ≤ maxI (if x < y then y else x) xs
    have ih := maxI_ge xs (if x < y then y else x)
    have h0 := ih _ (List.mem_cons_self ..)
    rcases List.mem_cons.mp hz with rfl | hz
    · split at h0 <;> rename_i hh <;> simp only [hh, if_true, if_false] <;> omega
    · rcases List.mem_cons.mp hz with rfl | hz
      · split at h0 <;> rename_i hh <;> simp only [hh, if_true, if_false] <;> omega
      · exact ih z (by simp [hz])
/-! ### the longest that a part prints, and its fields -/
mutual
def Part.best (mo : Nat → Int) : Part → Int × List Nat
  | .fld k a b => (a.length + b.length + mo k, [k])
  | .row a s l b ps => (a.length + b.length + sepsOf s l ps.length + ((bests mo ps).map (·.1)).sum, (bests mo ps).flatMap (·.2))
  | .eit ps => (match bests mo ps with
    | [] => (0, [])
    | x :: xs => maxB x xs)
def bests (mo : Nat → Int) : List Part → List (Int × List Nat)
  | [] => []
  | p :: ps => p.best mo :: bests mo ps
end
theorem bests_map (mo : Nat → Int) : ∀ ps : List Part, bests mo ps = ps.map (Part.best mo)
  | [] => rfl
  | p :: ps => by rw [bests, List.map_cons, bests_map mo ps]
theorem flds_le {q : Part} : ∀ {ps : List Part}, q ∈ ps → q.flds.length ≤ (ps.flatMap Part.flds).length
  | [], h => nomatch h
  | p :: ps, h => by
    rw [List.flatMap_cons, List.length_append]
    rcases List.mem_cons.mp h with rfl | h
    · omega
    · have := flds_le h; omega
theorem best_len (mo : Nat → Int) (p : Part) : (p.best mo).2.length ≤ p.flds.length := by
  induction p using Part.ind with
  | hf k a b => simp [Part.best, Part.flds]
  | hr a s l b ps ih =>
    rw [Part.best, Part.flds, bests_map, fldss_eq]
    show ((ps.map (Part.best mo)).flatMap (·.2)).length ≤ _
    clear a s l b
    induction ps with
    | nil => simp
    | cons p ps ihp =>
      have h1 := ih p (by simp)
      have h2 := ihp fun q hq => ih q (by simp [hq])
      simp only [List.map_cons, List.flatMap_cons, List.length_append]
      omega
  | he ps ih =>
    rw [Part.best, Part.flds, bests_map, fldss_eq]
    cases ps with
    | nil => simp
    | cons p ps =>
      have h0 := maxB_mem (ps.map (Part.best mo)) (p.best mo)
      show (maxB (p.best mo) (ps.map (Part.best mo))).2.length ≤ _
      rw [← List.map_cons] at h0
      obtain ⟨q, hq, e⟩ := List.mem_map.mp h0
      rw [← e]
      have h1 := ih q hq
      have : q.flds.length ≤ ((p :: ps).flatMap Part.flds).length := by
        exact flds_le hq
      omega
theorem best_lt {mo : Nat → Int} {n : Nat} : ∀ {p : Part}, p.ok n → ∀ k ∈ (p.best mo).2, k < n := by
  intro p
  induction p using Part.ind with
  | hf k a b => intro h j hj; rw [Part.ok] at h; rw [Part.best] at hj; simp at hj; omega
  | hr a s l b ps ih =>
    intro h j hj
    rw [row_ok] at h
    rw [Part.best, bests_map] at hj
    obtain ⟨x, hx, hjx⟩ := List.mem_flatMap.mp hj
    obtain ⟨p, hp, rfl⟩ := List.mem_map.mp hx
    exact ih p hp (h.2.2.2.2.2.2 p hp) j hjx
  | he ps ih =>
    intro h j hj
    rw [eit_ok] at h
    rw [Part.best, bests_map] at hj
    cases ps with
    | nil => exact absurd rfl h.1
    | cons p ps =>
      have h0 := maxB_mem (ps.map (Part.best mo)) (p.best mo)
      rw [← List.map_cons] at h0
      obtain ⟨q, hq, e⟩ := List.mem_map.mp h0
      refine ih q hq (h.2.2 q hq) j ?_
      rw [e]; exact hj
/-- the longest line with another greatest length of a field -/
def Tpl.L (t : Tpl) (k : Nat) (x : Int) : Int := (t.pt.best (t.wm k x).mo).1
def mostL (t : Tpl) (k : Nat) (n : Int) : List Nat := (List.range 40).filter fun (j : Nat) => decide (t.L k (1 + j) ≤ n)
/-- the greatest length, or nothing -/
def mostO (t : Tpl) (k : Nat) (n : Int) : Option Nat := (mostL t k n).getLast?
def eN : Option Nat → D
  | some j => .int (1 + j)
  | none => .non
end Ev
/-! Mc: what lines print, in plain Lean: given parts, pieces, the rows of all sets. -/
namespace Ev
open PySem L2
/-- a field's value -/
abbrev Vals := List (Option Tx)
def isG (vs : Vals) (k : Nat) : Bool := ((vs[k]?).bind id).isSome
def Part.given (vs : Vals) (p : Part) : Bool := p.flds.any (isG vs)
abbrev Pc := Option Nat × Tx
def eZ : Option Nat → Int
  | some k => k
  | none => -1
abbrev ePc (p : Pc) : D := .tup [.int (eZ p.1), .str p.2]
/-- the pieces with what stands between -/
def weave (s : Tx) (l : Option Tx) (n : Nat) : Nat → List (List Pc) → List Pc
  | _, [] => []
  | i, x :: xs => (if 0 < i then [(none, if i + 1 < n then s else l.getD s)] else []) ++ x ++ weave s l n (i + 1) xs
mutual
def Part.put (vs : Vals) : Part → List Pc
  | .fld k a b => [(none, a), (some k, ((vs[k]?).bind id).getD []), (none, b)]
  | .row a s l b ps => (none, a) :: (weave s l (puts vs ps).length 0 (puts vs ps) ++ [(none, b)])
  | .eit ps => (puts vs ps).head?.getD []
def puts (vs : Vals) : List Part → List (List Pc)
  | [] => []
  | p :: ps => if p.given vs = true then p.put vs :: puts vs ps else puts vs ps
end
theorem puts_eq (vs : Vals) : ∀ ps : List Part, puts vs ps = (ps.filter (Part.given vs)).map (Part.put vs)
  | [] => rfl
  | p :: ps => by
    rw [puts, puts_eq vs ps, List.filter_cons]
    by_cases h : p.given vs = true
    · rw [if_pos h, if_pos h]; rfl
    · rw [if_neg h, if_neg h]
/-- all sets of numbers below n, as the law tells them -/
def subs : Nat → List (List Nat)
  | 0 => [[]]
  | n + 1 => subs n ++ (subs n).map (· ++ [n])
theorem subs_length : ∀ n, (subs n).length = 2 ^ n
  | 0 => rfl
  | n + 1 => by rw [subs, List.length_append, List.length_map, subs_length n]; omega
theorem subs_lt : ∀ {n : Nat} {xs : List Nat}, xs ∈ subs n → ∀ k ∈ xs, k < n
  | 0, xs, h, k, hk => by rw [subs] at h; simp at h; subst h; cases hk
  | n + 1, xs, h, k, hk => by
    rw [subs] at h
    rcases List.mem_append.mp h with h | h
    · have := subs_lt h k hk; omega
    · obtain ⟨ys, hy, rfl⟩ := List.mem_map.mp h
      rcases List.mem_append.mp hk with hk | hk
      · have := subs_lt hy k hk; omega
      · simp at hk; omega
theorem subs_len : ∀ {n : Nat} {xs : List Nat}, xs ∈ subs n → xs.length ≤ n
  | 0, xs, h => by rw [subs] at h; simp at h; subst h; simp
  | n + 1, xs, h => by
    rw [subs] at h
    rcases List.mem_append.mp h with h | h
    · have := subs_len h; omega
    · obtain ⟨ys, hy, rfl⟩ := List.mem_map.mp h
      have := subs_len hy
      simp; omega
theorem subs_head : ∀ n, ∃ r, subs n = [] :: r
  | 0 => ⟨[], rfl⟩
  | n + 1 => by
    obtain ⟨r, h⟩ := subs_head n
    rw [subs, h]
    exact ⟨_, rfl⟩
/-- the values that give a set -/
def setV (n : Nat) (xs : List Nat) : Vals := (List.range n).map fun k => if k ∈ xs then some [] else none
def lenP (p : Pc) : Int := p.2.length
/-- how many characters, and which fields print -/
def rowOf (p : Part) (n : Nat) (xs : List Nat) : Int × List Nat := (((p.put (setV n xs)).map lenP).sum, (p.put (setV n xs)).filterMap (·.1))
def rowsOf (p : Part) (n : Nat) : List (Int × List Nat) := ((subs n).drop 1).map (rowOf p n)
theorem weave_snoc (s : Tx) (l : Option Tx) (n : Nat) (x : List Pc) : ∀ (xs : List (List Pc)) (i : Nat), weave s l n i (xs ++ [x]) = weave s l n i xs ++ ((if 0 < i + xs.length then [(none, if i + xs.length + 1 < n then s else l.getD s)] else []) ++ x)
  | [], i => by simp [weave]
  | y :: xs, i => by
    rw [List.cons_append, weave, weave_snoc s l n x xs (i + 1), weave]
    simp only [List.length_cons, List.append_assoc]
    rw [show i + 1 + xs.length = i + (xs.length + 1) by omega]
theorem weave_len (s : Tx) (l : Option Tx) (n : Nat) : ∀ (xs : List (List Pc)) (i : Nat), (weave s l n i xs).length ≤ (xs.map List.length).sum + xs.length
  | [], i => by simp [weave]
  | y :: xs, i => by
    have := weave_len s l n xs (i + 1)
    rw [weave]
    simp only [List.length_append, List.map_cons, List.sum_cons, List.length_cons]
    split <;> simp <;> omega
theorem put_len (vs : Vals) (p : Part) : (p.put vs).length + 2 ≤ 5 * p.size := by
  induction p using Part.ind with
  | hf k a b => simp [Part.put, Part.size]
  | hr a s l b ps ih =>
    rw [Part.put, Part.size]
    have h1 := weave_len s l (puts vs ps).length (puts vs ps) 0
    have h2 : ((puts vs ps).map List.length).sum + 2 * (puts vs ps).length ≤ 5 * sizes ps := by
      rw [puts_eq, List.map_map]
      clear h1
      induction ps with
      | nil => simp [sizes]
      | cons q ps ihp =>
        have h0 := ih q (by simp)
        have h3 := ihp fun r hr => ih r (by simp [hr])
        rw [List.filter_cons, sizes]
        split
        · simp only [List.map_cons, List.sum_cons, List.length_cons, Function.comp, List.length_map] at h3 ⊢; omega
        · simp only [List.length_map] at h3 ⊢; omega
    simp only [List.length_cons, List.length_append, List.length_nil]
    omega
  | he ps ih =>
    rw [Part.put, Part.size, puts_eq]
    cases h : ps.filter (Part.given vs) with
    | nil => simp; omega
    | cons q qs =>
      have hq : q ∈ ps := (List.mem_filter.mp (by rw [h]; simp : q ∈ ps.filter (Part.given vs))).1
      have h0 := ih q hq
      have h1 := size_le hq
      simp only [List.map_cons, List.head?_cons, Option.getD_some]
      omega
theorem weave_append (s : Tx) (l : Option Tx) (n : Nat) (ys : List (List Pc)) : ∀ (xs : List (List Pc)) (i : Nat), weave s l n i (xs ++ ys) = weave s l n i xs ++ weave s l n (i + xs.length) ys
  | [], i => by simp [weave]
  | y :: xs, i => by
    rw [List.cons_append, weave, weave_append s l n ys xs (i + 1), weave]
    simp only [List.length_cons, List.append_assoc]
    rw [show i + 1 + xs.length = i + (xs.length + 1) by omega]
theorem weave_step (s : Tx) (l : Option Tx) (n : Nat) (f : Part → List Pc) (inner : List Part) {k : Nat} (hk : k < inner.length) : weave s l n 0 ((inner.take (k + 1)).map f) = weave s l n 0 ((inner.take k).map f) ++ ((if 0 < k then [(none, if k + 1 < n then s else l.getD s)] else []) ++ f inner[k]) := by
  have hT : inner.take (k + 1) = inner.take k ++ [inner[k]] := by
    rw [List.take_add_one, List.getElem?_eq_getElem hk]; rfl
  have := weave_snoc s l n (f inner[k]) ((inner.take k).map f) 0
  rw [List.length_map, List.length_take, Nat.min_eq_left (by omega), Nat.zero_add] at this
  rw [hT, List.map_append, List.map_singleton, this]
theorem weave_take (s : Tx) (l : Option Tx) (n : Nat) (f : Part → List Pc) (inner : List Part) {k : Nat} (hk : k < inner.length) : (weave s l n 0 ((inner.take k).map f)).length + (if 0 < k then 1 else 0) + (f inner[k]).length ≤ (weave s l n 0 (inner.map f)).length := by
  have h1 := congrArg List.length (weave_step s l n f inner hk)
  have h2 := weave_append s l n ((inner.drop (k + 1)).map f) ((inner.take (k + 1)).map f) 0
  rw [← List.map_append, List.take_append_drop] at h2
  have h3 := congrArg List.length h2
  rw [List.length_append] at h3
  simp only [List.length_append] at h1
  split at h1 <;> simp only [List.length_singleton, List.length_nil] at h1 <;> rename_i hh
  · rw [if_pos hh]; omega
  · rw [if_neg hh]; omega
theorem weave_mem {s : Tx} {l : Option Tx} {n : Nat} {pc : Pc} : ∀ {xs : List (List Pc)} {i : Nat}, pc ∈ weave s l n i xs → (pc.1 = none ∧ (pc.2 = s ∨ pc.2 = l.getD s)) ∨ ∃ x ∈ xs, pc ∈ x
  | [], i, h => by rw [weave] at h; cases h
  | y :: xs, i, h => by
    rw [weave] at h
    rcases List.mem_append.mp h with h | h
    · rcases List.mem_append.mp h with h | h
      · split at h
        · simp at h; subst h
          refine .inl ⟨rfl, ?_⟩
          dsimp only
          split
          · exact .inl rfl
          · exact .inr rfl
        · cases h
      · exact .inr ⟨y, by simp, h⟩
    · rcases weave_mem h with h | ⟨x, hx, hp⟩
      · exact .inl h
      · exact .inr ⟨x, by simp [hx], hp⟩
/-- all texts are short -/
theorem put_short {n : Nat} {vs : Vals} (hv : ∀ (k : Nat) (x : Tx), vs[k]? = some (some x) → x.length ≤ 40) : ∀ {p : Part}, p.ok n → ∀ pc ∈ p.put vs, pc.2.length ≤ 40 := by
  intro p
  induction p using Part.ind with
  | hf k a b =>
    intro h pc hpc
    rw [Part.ok] at h
    rw [Part.put] at hpc
    simp only [List.mem_cons, List.not_mem_nil, or_false] at hpc
    rcases hpc with rfl | rfl | rfl
    · dsimp only; omega
    · dsimp only
      cases e : vs[k]? with
      | none => simp
      | some o =>
        cases o with
        | none => simp
        | some x => have := hv k x e; simpa using this
    · dsimp only; omega
  | hr a s l b ps ih =>
    intro h pc hpc
    rw [row_ok] at h
    rw [Part.put, puts_eq] at hpc
    rcases List.mem_cons.mp hpc with rfl | hpc
    · dsimp only; omega
    · rcases List.mem_append.mp hpc with hpc | hpc
      · rcases weave_mem hpc with ⟨_, h1 | h1⟩ | ⟨x, hx, hp⟩
        · rw [h1]; omega
        · rw [h1]; omega
        · obtain ⟨q, hq, rfl⟩ := List.mem_map.mp hx
          exact ih q (List.mem_filter.mp hq).1 (h.2.2.2.2.2.2 q (List.mem_filter.mp hq).1) pc hp
      · simp at hpc; subst hpc; dsimp only; omega
  | he ps ih =>
    intro h pc hpc
    rw [eit_ok] at h
    rw [Part.put, puts_eq] at hpc
    cases e : ps.filter (Part.given vs) with
    | nil => rw [e] at hpc; cases hpc
    | cons q qs =>
      rw [e] at hpc
      have hq : q ∈ ps := (List.mem_filter.mp (by rw [e]; simp : q ∈ ps.filter (Part.given vs))).1
      exact ih q hq (h.2.2 q hq) pc hpc
theorem subs_tail : ∀ {n : Nat} {xs : List Nat}, xs ∈ (subs n).drop 1 → xs ≠ []
  | 0, xs, h => by rw [subs] at h; cases h
  | n + 1, xs, h => by
    obtain ⟨r, hr⟩ := subs_head n
    rw [subs, hr, List.cons_append, List.drop_succ_cons, List.drop_zero] at h
    rcases List.mem_append.mp h with h | h
    · exact subs_tail (n := n) (by rw [hr]; exact h)
    · obtain ⟨ys, _, rfl⟩ := List.mem_map.mp h
      simp
theorem setV_length (n : Nat) (xs : List Nat) : (setV n xs).length = n := by simp [setV]
theorem setV_at {n k : Nat} {xs : List Nat} (h : k < n) : (setV n xs)[k]? = some (if k ∈ xs then some [] else none) := by simp [setV, h]
theorem isG_setV {n k : Nat} {xs : List Nat} : isG (setV n xs) k = decide (k < n ∧ k ∈ xs) := by
  unfold isG
  by_cases h : k < n
  · rw [setV_at h]
    by_cases hx : k ∈ xs <;> simp [h, hx]
  · rw [List.getElem?_eq_none (by rw [setV_length]; omega)]
    simp [h]
/-- a row's value -/
def rowVal (mo : Nat → Int) (r : Int × List Nat) : Int := r.1 + (r.2.map mo).sum
theorem maxI_B : ∀ (xs : List (Int × List Nat)) (x : Int × List Nat), maxI x.1 (xs.map (·.1)) = (maxB x xs).1 := by
  intro xs x
  apply Int.le_antisymm
  · have h := maxI_mem (xs.map (·.1)) x.1
    rw [← List.map_cons (f := fun z : Int × List Nat => z.1)] at h
    obtain ⟨z, hz, e⟩ := List.mem_map.mp h
    rw [← e]
    exact maxB_ge xs x z hz
  · have h := maxB_mem xs x
    apply maxI_ge
    rw [← List.map_cons (f := fun z : Int × List Nat => z.1)]
    exact List.mem_map_of_mem h
/-- only fields of the part print -/
theorem put_flds {vs : Vals} : ∀ {p : Part}, ∀ pc ∈ p.put vs, ∀ k, pc.1 = some k → k ∈ p.flds := by
  intro p
  induction p using Part.ind with
  | hf k a b =>
    intro pc hpc j hj
    rw [Part.put] at hpc
    simp only [List.mem_cons, List.not_mem_nil, or_false] at hpc
    rcases hpc with rfl | rfl | rfl <;> simp_all [Part.flds]
  | hr a s l b ps ih =>
    intro pc hpc j hj
    rw [Part.put, puts_eq] at hpc
    rw [Part.flds, fldss_eq]
    rcases List.mem_cons.mp hpc with rfl | hpc
    · cases hj
    · rcases List.mem_append.mp hpc with hpc | hpc
      · rcases weave_mem hpc with ⟨h1, _⟩ | ⟨x, hx, hp⟩
        · rw [h1] at hj; cases hj
        · obtain ⟨q, hq, rfl⟩ := List.mem_map.mp hx
          exact List.mem_flatMap.mpr ⟨q, (List.mem_filter.mp hq).1, ih q (List.mem_filter.mp hq).1 pc hp j hj⟩
      · simp at hpc; subst hpc; cases hj
  | he ps ih =>
    intro pc hpc j hj
    rw [Part.put, puts_eq] at hpc
    rw [Part.flds, fldss_eq]
    cases e : ps.filter (Part.given vs) with
    | nil => rw [e] at hpc; cases hpc
    | cons q qs =>
      rw [e] at hpc
      have hq : q ∈ ps := (List.mem_filter.mp (by rw [e]; simp : q ∈ ps.filter (Part.given vs))).1
      exact List.mem_flatMap.mpr ⟨q, hq, ih q hq pc hpc j hj⟩
theorem rowsOf_ne {p : Part} {n : Nat} (h : 0 < n) : rowsOf p n ≠ [] := by
  intro hc
  have := congrArg List.length hc
  rw [rowsOf, List.length_map, List.length_drop, subs_length] at this
  have : 2 ^ 1 ≤ 2 ^ n := Nat.pow_le_pow_right (by decide) h
  simp at *
  omega
end Ev
/-! Md: best tells the longest line, by all sets. -/
namespace Ev
open PySem L2
/-- a weight of pieces: texts by their length, values as mo says -/
structure Wt (w : Pc → Int) (mo : Nat → Int) (vs : Vals) : Prop where
  t : ∀ x, w (none, x) = x.length
  v : ∀ (k : Nat) (x : Tx), vs[k]? = some (some x) → w (some k, x) = mo k
def tot (w : Pc → Int) (l : List Pc) : Int := (l.map w).sum
theorem tot_nil (w : Pc → Int) : tot w [] = 0 := rfl
theorem tot_cons (w : Pc → Int) (p : Pc) (l : List Pc) : tot w (p :: l) = w p + tot w l := rfl
theorem tot_app (w : Pc → Int) : ∀ l m : List Pc, tot w (l ++ m) = tot w l + tot w m
  | [], m => by simp [tot]
  | p :: l, m => by rw [List.cons_append, tot_cons, tot_cons, tot_app w l m]; omega
section
variable {w : Pc → Int} {mo : Nat → Int} {vs : Vals}
/-- behind the first part -/
theorem tot_weave1 (W : Wt w mo vs) (s : Tx) (l : Option Tx) (n : Nat) : ∀ (xs : List (List Pc)) (i : Nat), 0 < i → i + xs.length = n → xs ≠ [] → tot w (weave s l n i xs) = (xs.map (tot w)).sum + ((xs.length : Int) - 1) * s.length + (l.getD s).length
  | [], _, _, _, h => absurd rfl h
  | [x], i, hi, hn, _ => by
    rw [weave, weave, if_pos hi, if_neg (by simp at hn; omega), tot_app, tot_app, tot_cons, tot_nil, W.t]
    simp; omega
  | x :: y :: xs, i, hi, hn, _ => by
    have ih := tot_weave1 W s l n (y :: xs) (i + 1) (by omega) (by simp at hn ⊢; omega) (by simp)
    rw [weave, if_pos hi, if_pos (by simp at hn; omega), tot_app, tot_app, tot_cons, tot_nil, W.t, ih]
    simp only [List.map_cons, List.sum_cons, List.length_cons]
    have : (((xs.length + 1 + 1 : Nat) : Int) - 1) * s.length = (((xs.length + 1 : Nat) : Int) - 1) * s.length + s.length := by
      rw [show (((xs.length + 1 + 1 : Nat) : Int) - 1) = ((xs.length + 1 : Nat) : Int) - 1 + 1 by omega, Int.add_mul, Int.one_mul]
    omega
theorem tot_weave (W : Wt w mo vs) (s : Tx) (l : Option Tx) (xs : List (List Pc)) (h : xs ≠ []) : tot w (weave s l xs.length 0 xs) = (xs.map (tot w)).sum + sepsOf s l xs.length := by
  cases xs with
  | nil => exact absurd rfl h
  | cons x xs =>
    rw [weave, if_neg (by omega), List.nil_append, tot_app]
    cases xs with
    | nil => simp [weave, tot_nil, sepsOf]
    | cons y xs =>
      rw [tot_weave1 W s l _ (y :: xs) (0 + 1) (by omega) (by simp; omega) (by simp), sepsOf, if_pos (by simp)]
      simp only [List.map_cons, List.sum_cons, List.length_cons]
      rw [show (((xs.length + 1 + 1 : Nat) : Int) - 2) = ((xs.length + 1 : Nat) : Int) - 1 by omega, Int.mul_comm (s.length : Int)]
      omega
theorem seps_mono (s : Tx) (l : Option Tx) {n m : Nat} (h : n ≤ m) : sepsOf s l n ≤ sepsOf s l m := by
  unfold sepsOf
  by_cases h1 : 1 < n
  · rw [if_pos h1, if_pos (by omega)]
    have : (s.length : Int) * ((n : Int) - 2) ≤ s.length * ((m : Int) - 2) := Int.mul_le_mul_of_nonneg_left (by omega) (by omega)
    omega
  · rw [if_neg h1]
    by_cases h2 : 1 < m
    · rw [if_pos h2]
      have : (0 : Int) ≤ s.length * ((m : Int) - 2) := Int.mul_nonneg (by omega) (by omega)
      omega
    · rw [if_neg h2]; exact Int.le_refl 0
theorem seps_nonneg (s : Tx) (l : Option Tx) (n : Nat) : 0 ≤ sepsOf s l n := by
  have := seps_mono s l (Nat.zero_le n)
  have h0 : sepsOf s l 0 = 0 := by simp [sepsOf]
  omega
theorem sum_nonneg : ∀ {xs : List Int}, (∀ x ∈ xs, 0 ≤ x) → 0 ≤ xs.sum
  | [], _ => by simp
  | x :: xs, h => by
    have h1 := h x (by simp)
    have h2 := sum_nonneg (xs := xs) fun y hy => h y (by simp [hy])
    rw [List.sum_cons]; omega
theorem best_nonneg {n : Nat} (hmo : ∀ k, k < n → 0 ≤ mo k) : ∀ {p : Part}, p.ok n → 0 ≤ (p.best mo).1 := by
  intro p
  induction p using Part.ind with
  | hf k a b => intro h; rw [Part.ok] at h; have := hmo k h.1; rw [Part.best]; dsimp only; omega
  | hr a s l b ps ih =>
    intro h
    rw [row_ok] at h
    rw [Part.best, bests_map]
    have h1 := seps_nonneg s l ps.length
    have h2 : 0 ≤ ((ps.map (Part.best mo)).map (·.1)).sum := sum_nonneg fun x hx => by
      obtain ⟨y, hy, rfl⟩ := List.mem_map.mp hx
      obtain ⟨p, hp, rfl⟩ := List.mem_map.mp hy
      exact ih p hp (h.2.2.2.2.2.2 p hp)
    dsimp only; omega
  | he ps ih =>
    intro h
    rw [eit_ok] at h
    rw [Part.best, bests_map]
    cases ps with
    | nil => exact absurd rfl h.1
    | cons p ps =>
      have h1 := ih p (by simp) (h.2.2 p (by simp))
      have h2 := maxB_ge (ps.map (Part.best mo)) (p.best mo) (p.best mo) (by simp)
      show 0 ≤ (maxB _ _).1
      omega
/-- no line is longer -/
theorem tot_le (W : Wt w mo vs) {n : Nat} (hmo : ∀ k, k < n → 0 ≤ mo k) : ∀ {p : Part}, p.ok n → p.given vs = true → tot w (p.put vs) ≤ (p.best mo).1 := by
  intro p
  induction p using Part.ind with
  | hf k a b =>
    intro h hg
    have hg' : isG vs k = true := by simpa [Part.given, Part.flds] using hg
    rw [Part.put, Part.best, tot_cons, tot_cons, tot_cons, tot_nil, W.t, W.t]
    unfold isG at hg'
    cases e : vs[k]? with
    | none => rw [e] at hg'; cases hg'
    | some o =>
      cases o with
      | none => rw [e] at hg'; cases hg'
      | some x =>
        have := W.v k x e
        show (a.length : Int) + (w (some k, x) + (b.length + 0)) ≤ _
        dsimp only
        omega
  | hr a s l b ps ih =>
    intro h hg
    have h' := h
    rw [row_ok] at h
    rw [Part.put, puts_eq, Part.best, bests_map, tot_cons, tot_app, tot_cons, tot_nil, W.t, W.t]
    have hne : (ps.filter (Part.given vs)).map (Part.put vs) ≠ [] := by
      intro hc
      have hc' := List.map_eq_nil_iff.mp hc
      unfold Part.given at hg
      rw [Part.flds, fldss_eq, List.any_eq_true] at hg
      obtain ⟨k, hk, hgk⟩ := hg
      obtain ⟨q, hq, hkq⟩ := List.mem_flatMap.mp hk
      have : q ∈ ps.filter (Part.given vs) := List.mem_filter.mpr ⟨hq, List.any_eq_true.mpr ⟨k, hkq, hgk⟩⟩
      rw [hc'] at this; cases this
    rw [tot_weave W s l _ hne]
    have h1 : sepsOf s l ((ps.filter (Part.given vs)).map (Part.put vs)).length ≤ sepsOf s l ps.length := seps_mono s l (by rw [List.length_map]; exact List.length_filter_le _ _)
    have h2 : (((ps.filter (Part.given vs)).map (Part.put vs)).map (tot w)).sum ≤ ((ps.map (Part.best mo)).map (·.1)).sum := by
      have hok := h.2.2.2.2.2.2
      clear h h' hg hne h1
      induction ps with
      | nil => simp
      | cons q ps ihp =>
        have h3 := ihp (fun r hr => ih r (by simp [hr])) fun r hr => hok r (by simp [hr])
        rw [List.filter_cons]
        by_cases hq : q.given vs = true
        · have h4 := ih q (by simp) (hok q (by simp)) hq
          rw [if_pos hq]
          simp only [List.map_cons, List.sum_cons]
          omega
        · have h4 := best_nonneg hmo (hok q (by simp))
          rw [if_neg hq]
          simp only [List.map_cons, List.sum_cons]
          omega
    dsimp only
    omega
  | he ps ih =>
    intro h hg
    rw [eit_ok] at h
    rw [Part.put, puts_eq, Part.best, bests_map]
    cases e : ps.filter (Part.given vs) with
    | nil =>
      exfalso
      unfold Part.given at hg
      rw [Part.flds, fldss_eq, List.any_eq_true] at hg
      obtain ⟨k, hk, hgk⟩ := hg
      obtain ⟨q, hq, hkq⟩ := List.mem_flatMap.mp hk
      have : q ∈ ps.filter (Part.given vs) := List.mem_filter.mpr ⟨hq, List.any_eq_true.mpr ⟨k, hkq, hgk⟩⟩
      rw [e] at this; cases this
    | cons q qs =>
      have hq := List.mem_filter.mp (by rw [e]; simp : q ∈ ps.filter (Part.given vs))
      have h1 := ih q hq.1 (h.2.2 q hq.1) hq.2
      cases ps with
      | nil => cases hq.1
      | cons p ps =>
        have h2 := maxB_ge (ps.map (Part.best mo)) (p.best mo) (q.best mo) (by rw [← List.map_cons]; exact List.mem_map_of_mem hq.1)
        show tot w (q.put vs) ≤ (maxB _ _).1
        omega
theorem best_flds (mo : Nat → Int) : ∀ (p : Part), ∀ k ∈ (p.best mo).2, k ∈ p.flds := by
  intro p
  induction p using Part.ind with
  | hf k a b => intro j hj; rw [Part.best] at hj; rw [Part.flds]; exact hj
  | hr a s l b ps ih =>
    intro j hj
    rw [Part.best, bests_map] at hj
    rw [Part.flds, fldss_eq]
    obtain ⟨x, hx, hjx⟩ := List.mem_flatMap.mp hj
    obtain ⟨q, hq, rfl⟩ := List.mem_map.mp hx
    exact List.mem_flatMap.mpr ⟨q, hq, ih q hq j hjx⟩
  | he ps ih =>
    intro j hj
    rw [Part.best, bests_map] at hj
    rw [Part.flds, fldss_eq]
    cases ps with
    | nil => cases hj
    | cons p ps =>
      have h0 := maxB_mem (ps.map (Part.best mo)) (p.best mo)
      rw [← List.map_cons] at h0
      obtain ⟨q, hq, e⟩ := List.mem_map.mp h0
      have hj' : j ∈ (maxB (p.best mo) (ps.map (Part.best mo))).2 := hj
      rw [← e] at hj'
      exact List.mem_flatMap.mpr ⟨q, hq, ih q hq j hj'⟩
/-- in lists without a field twice a field stands in one part -/
theorem flds_one : ∀ {ps : List Part}, (ps.flatMap Part.flds).Nodup → ∀ {i j : Nat} {p q : Part} {k : Nat}, ps[i]? = some p → ps[j]? = some q → k ∈ p.flds → k ∈ q.flds → i = j
  | [], _, i, j, p, q, k, hi, _, _, _ => by simp at hi
  | r :: ps, nd, i, j, p, q, k, hi, hj, hp, hq => by
    rw [List.flatMap_cons, List.nodup_append] at nd
    obtain ⟨n1, n2, n3⟩ := nd
    cases i with
    | zero =>
      cases j with
      | zero => rfl
      | succ j =>
        simp at hi hj
        subst hi
        exact absurd rfl (n3 k hp k (List.mem_flatMap.mpr ⟨q, List.mem_of_getElem? hj, hq⟩))
    | succ i =>
      cases j with
      | zero =>
        simp at hi hj
        subst hj
        exact absurd rfl (n3 k hq k (List.mem_flatMap.mpr ⟨p, List.mem_of_getElem? hi, hp⟩))
      | succ j =>
        simp at hi hj
        rw [flds_one n2 hi hj hp hq]
theorem nodup_of_flatMap : ∀ {ps : List Part}, (ps.flatMap Part.flds).Nodup → ∀ {p : Part}, p ∈ ps → p.flds.Nodup
  | [], _, _, h => nomatch h
  | q :: ps, nd, p, h => by
    rw [List.flatMap_cons, List.nodup_append] at nd
    rcases List.mem_cons.mp h with rfl | h
    · exact nd.1
    · exact nodup_of_flatMap nd.2.1 h
/-- the fields that best tells print just so many -/
theorem tot_best (W : Wt w mo vs) {n : Nat} : ∀ {p : Part}, p.ok n → p.flds.Nodup → (∀ k ∈ p.flds, isG vs k = decide (k ∈ (p.best mo).2)) → p.given vs = true ∧ tot w (p.put vs) = (p.best mo).1 := by
  intro p
  induction p using Part.ind with
  | hf k a b =>
    intro h _ hv
    have hg := hv k (by simp [Part.flds])
    rw [show decide (k ∈ ((Part.fld k a b).best mo).2) = true from decide_eq_true (by simp [Part.best])] at hg
    refine ⟨by simpa [Part.given, Part.flds] using hg, ?_⟩
    unfold isG at hg
    rw [Part.put, Part.best, tot_cons, tot_cons, tot_cons, tot_nil, W.t, W.t]
    cases e : vs[k]? with
    | none => rw [e] at hg; cases hg
    | some o =>
      cases o with
      | none => rw [e] at hg; cases hg
      | some x =>
        have := W.v k x e
        show (a.length : Int) + (w (some k, x) + (b.length + 0)) = _
        dsimp only
        omega
  | hr a s l b ps ih =>
    intro h nd hv
    rw [row_ok] at h
    rw [Part.flds, fldss_eq] at nd hv
    rw [Part.best, bests_map] at hv
    have hall : ∀ p ∈ ps, p.given vs = true ∧ tot w (p.put vs) = (p.best mo).1 := by
      intro p hp
      have hpn : p.flds.Nodup := nodup_of_flatMap nd hp
      refine ih p hp (h.2.2.2.2.2.2 p hp) hpn fun k hk => ?_
      rw [hv k (List.mem_flatMap.mpr ⟨p, hp, hk⟩)]
      congr 1
      apply propext
      constructor
      · intro hm
        obtain ⟨x, hx, hkx⟩ := List.mem_flatMap.mp hm
        obtain ⟨q, hq, rfl⟩ := List.mem_map.mp hx
        obtain ⟨i, hi⟩ := List.getElem?_of_mem hp
        obtain ⟨j, hj⟩ := List.getElem?_of_mem hq
        have := flds_one nd hi hj hk (best_flds mo q k hkx)
        subst this
        rw [hi] at hj
        cases hj
        exact hkx
      · intro hm
        exact List.mem_flatMap.mpr ⟨p.best mo, List.mem_map_of_mem hp, hm⟩
    have hf : ps.filter (Part.given vs) = ps := List.filter_eq_self.mpr fun p hp => (hall p hp).1
    refine ⟨?_, ?_⟩
    · obtain ⟨q, qs, rfl⟩ := List.exists_cons_of_ne_nil h.2.2.2.2.1
      have := (hall q (by simp)).1
      unfold Part.given at this ⊢
      rw [List.any_eq_true] at this ⊢
      obtain ⟨k, hk, hgk⟩ := this
      exact ⟨k, by rw [Part.flds, fldss_eq]; exact List.mem_flatMap.mpr ⟨q, by simp, hk⟩, hgk⟩
    · rw [Part.put, puts_eq, hf, Part.best, bests_map, tot_cons, tot_app, tot_cons, tot_nil, W.t, W.t, tot_weave W s l _ (by simpa using h.2.2.2.2.1), List.length_map]
      have hs : ((ps.map (Part.put vs)).map (tot w)) = ((ps.map (Part.best mo)).map (·.1)) := by
        rw [List.map_map, List.map_map]
        exact List.map_congr_left fun p hp => (hall p hp).2
      rw [hs]
      dsimp only
      omega
  | he ps ih =>
    intro h nd hv
    rw [eit_ok] at h
    rw [Part.flds, fldss_eq] at nd hv
    rw [Part.best, bests_map] at hv
    cases ps with
    | nil => exact absurd rfl h.1
    | cons p0 ps0 =>
      have h0 := maxB_mem (ps0.map (Part.best mo)) (p0.best mo)
      rw [← List.map_cons] at h0
      obtain ⟨q, hq, e⟩ := List.mem_map.mp h0
      have hv' : ∀ k ∈ (p0 :: ps0).flatMap Part.flds, isG vs k = decide (k ∈ (q.best mo).2) := fun k hk => by rw [hv k hk, e]; rfl
      have h1 := ih q hq (h.2.2 q hq) (nodup_of_flatMap nd hq) fun k hk => hv' k (List.mem_flatMap.mpr ⟨q, hq, hk⟩)
      have hfst : ((p0 :: ps0).filter (Part.given vs)).head? = some q := by
        obtain ⟨i, hi⟩ := List.getElem?_of_mem hq
        have hmem : q ∈ (p0 :: ps0).filter (Part.given vs) := List.mem_filter.mpr ⟨hq, h1.1⟩
        have huniq : ∀ r ∈ (p0 :: ps0).filter (Part.given vs), r = q := by
          intro r hr
          obtain ⟨hr1, hr2⟩ := List.mem_filter.mp hr
          unfold Part.given at hr2
          rw [List.any_eq_true] at hr2
          obtain ⟨k, hk, hgk⟩ := hr2
          rw [hv' k (List.mem_flatMap.mpr ⟨r, hr1, hk⟩)] at hgk
          have hkq := best_flds mo q k (of_decide_eq_true hgk)
          obtain ⟨j, hj⟩ := List.getElem?_of_mem hr1
          have := flds_one nd hi hj hkq hk
          subst this
          rw [hi] at hj
          cases hj
          rfl
        cases ef : (p0 :: ps0).filter (Part.given vs) with
        | nil => rw [ef] at hmem; cases hmem
        | cons r rs => rw [huniq r (by rw [ef]; simp)]; rfl
      refine ⟨?_, ?_⟩
      · have := h1.1
        unfold Part.given at this ⊢
        rw [List.any_eq_true] at this ⊢
        obtain ⟨k, hk, hgk⟩ := this
        exact ⟨k, by rw [Part.flds, fldss_eq]; exact List.mem_flatMap.mpr ⟨q, hq, hk⟩, hgk⟩
      · rw [Part.put, puts_eq, List.head?_map, hfst, Part.best, bests_map]
        show tot w (q.put vs) = (maxB (p0.best mo) (ps0.map (Part.best mo))).1
        rw [h1.2, e]
end
theorem filter_subs (P : Nat → Bool) : ∀ n, (List.range n).filter P ∈ subs n
  | 0 => by simp [subs]
  | n + 1 => by
    have ih := filter_subs P n
    rw [List.range_succ, List.filter_append, subs]
    cases h : P n with
    | true => exact List.mem_append_right _ (List.mem_map.mpr ⟨_, ih, by simp [h]⟩)
    | false => exact List.mem_append_left _ (by simpa [h] using ih)
def wRow (mo : Nat → Int) (p : Pc) : Int := p.2.length + (match p.1 with
  | some k => mo k
  | none => 0)
theorem rowVal_tot (mo : Nat → Int) (p : Part) (n : Nat) (xs : List Nat) : rowVal mo (rowOf p n xs) = tot (wRow mo) (p.put (setV n xs)) := by
  unfold rowVal rowOf
  dsimp only
  induction p.put (setV n xs) with
  | nil => simp [tot]
  | cons q l ih =>
    rw [tot_cons, ← ih, List.map_cons, List.sum_cons]
    rcases q with ⟨_ | k, x⟩
    · simp only [List.filterMap_cons, wRow, lenP]; omega
    · simp only [List.filterMap_cons, wRow, lenP, List.map_cons, List.sum_cons]; omega
theorem wRow_wt (mo : Nat → Int) (n : Nat) (xs : List Nat) : Wt (wRow mo) mo (setV n xs) where
  t := fun x => by simp [wRow]
  v := fun k x h => by
    by_cases hk : k < n
    · rw [setV_at hk] at h
      by_cases hx : k ∈ xs
      · rw [if_pos hx] at h; cases h; simp [wRow]
      · rw [if_neg hx] at h; cases h
    · rw [List.getElem?_eq_none (by rw [setV_length]; omega)] at h; cases h
theorem maxI_eq {x : Int} {xs : List Int} {y : Int} (h1 : y ∈ x :: xs) (h2 : ∀ z ∈ x :: xs, z ≤ y) : maxI x xs = y :=
  Int.le_antisymm (h2 _ (maxI_mem xs x)) (maxI_ge xs x y h1)
/-- the greatest of the rows is best's -/
theorem rows_max {mo : Nat → Int} {p : Part} {n : Nat} (hp : p.ok n) (hf : p.flds = List.range n) (hn : 0 < n) (hmo : ∀ k, k < n → 0 ≤ mo k) {r : Int × List Nat} {rs : List (Int × List Nat)} (h : rowsOf p n = r :: rs) : maxI (rowVal mo r) (rs.map (rowVal mo)) = (p.best mo).1 := by
  have hall : ∀ z ∈ (rowsOf p n).map (rowVal mo), z ≤ (p.best mo).1 := by
    intro z hz
    obtain ⟨row, hrow, rfl⟩ := List.mem_map.mp hz
    obtain ⟨xs, hxs, rfl⟩ := List.mem_map.mp hrow
    rw [rowVal_tot]
    refine tot_le (wRow_wt mo n xs) hmo hp ?_
    obtain ⟨k, ys, hk⟩ := List.exists_cons_of_ne_nil (subs_tail hxs)
    have hkx : k ∈ xs := by rw [hk]; simp
    have hkn := subs_lt (List.mem_of_mem_drop hxs) k hkx
    unfold Part.given
    rw [List.any_eq_true]
    exact ⟨k, by rw [hf]; exact List.mem_range.mpr hkn, by rw [isG_setV]; exact decide_eq_true ⟨hkn, hkx⟩⟩
  have hmem : (p.best mo).1 ∈ (rowsOf p n).map (rowVal mo) := by
    let xs := (List.range n).filter fun k => decide (k ∈ (p.best mo).2)
    have hb := tot_best (wRow_wt mo n xs) hp (by rw [hf]; exact List.nodup_range) fun k hk => by
      rw [isG_setV]
      rw [hf] at hk
      have hkn := List.mem_range.mp hk
      congr 1
      apply propext
      constructor
      · rintro ⟨_, h2⟩
        exact of_decide_eq_true (List.mem_filter.mp h2).2
      · intro h2
        exact ⟨hkn, List.mem_filter.mpr ⟨List.mem_range.mpr hkn, decide_eq_true h2⟩⟩
    refine List.mem_map.mpr ⟨rowOf p n xs, List.mem_map.mpr ⟨xs, ?_, rfl⟩, ?_⟩
    · have hs := filter_subs (fun k => decide (k ∈ (p.best mo).2)) n
      obtain ⟨t, ht⟩ := subs_head n
      have hs' : xs ∈ subs n := hs
      rw [ht] at hs' ⊢
      rcases List.mem_cons.mp hs' with h0 | h0
      · exfalso
        have hg := hb.1
        unfold Part.given at hg
        rw [List.any_eq_true] at hg
        obtain ⟨k, _, hgk⟩ := hg
        rw [isG_setV, h0] at hgk
        simp at hgk
      · simpa using h0
    · rw [rowVal_tot]; exact hb.2
  rw [h, List.map_cons] at hall hmem
  exact maxI_eq hmem hall
/-- longer fields, longer lines -/
theorem best_mono {mo mo' : Nat → Int} (h : ∀ k, mo k ≤ mo' k) : ∀ p : Part, (p.best mo).1 ≤ (p.best mo').1 := by
  intro p
  induction p using Part.ind with
  | hf k a b => have := h k; rw [Part.best, Part.best]; dsimp only; omega
  | hr a s l b ps ih =>
    rw [Part.best, Part.best, bests_map, bests_map]
    have : ((ps.map (Part.best mo)).map (·.1)).sum ≤ ((ps.map (Part.best mo')).map (·.1)).sum := by
      induction ps with
      | nil => simp
      | cons q ps ihp =>
        have h1 := ih q (by simp)
        have h2 := ihp fun r hr => ih r (by simp [hr])
        simp only [List.map_cons, List.sum_cons]
        omega
    dsimp only
    omega
  | he ps ih =>
    rw [Part.best, Part.best, bests_map, bests_map]
    cases ps with
    | nil => simp
    | cons p ps =>
      show (maxB _ _).1 ≤ (maxB _ _).1
      have h0 := maxB_mem (ps.map (Part.best mo)) (p.best mo)
      rw [← List.map_cons] at h0
      obtain ⟨q, hq, e⟩ := List.mem_map.mp h0
      rw [← e]
      have h1 := ih q hq
      have h2 := maxB_ge (ps.map (Part.best mo')) (p.best mo') (q.best mo') (by rw [← List.map_cons]; exact List.mem_map_of_mem hq)
      omega
theorem L_mono (t : Tpl) {k : Nat} (hk : k < t.fs.length) {x y : Int} (h : x ≤ y) : t.L k x ≤ t.L k y :=
  best_mono (fun j => by rw [wm_mo t hk, wm_mo t hk]; split <;> omega) t.pt
/-- best tells no field twice -/
theorem best_nodup {mo : Nat → Int} {n : Nat} : ∀ {p : Part}, p.ok n → p.flds.Nodup → (p.best mo).2.Nodup := by
  intro p
  induction p using Part.ind with
  | hf k a b => intro _ _; rw [Part.best]; simp
  | hr a s l b ps ih =>
    intro h nd
    rw [row_ok] at h
    rw [Part.flds, fldss_eq] at nd
    rw [Part.best, bests_map]
    have hok := h.2.2.2.2.2.2
    clear h
    show ((ps.map (Part.best mo)).flatMap (·.2)).Nodup
    induction ps with
    | nil => simp
    | cons q ps ihp =>
      rw [List.flatMap_cons, List.nodup_append] at nd
      rw [List.map_cons, List.flatMap_cons, List.nodup_append]
      refine ⟨ih q (by simp) (hok q (by simp)) nd.1, ihp (fun r hr => ih r (by simp [hr])) nd.2.1 fun r hr => hok r (by simp [hr]), fun a ha b hb => ?_⟩
      obtain ⟨x, hx, hbx⟩ := List.mem_flatMap.mp hb
      obtain ⟨r, hr, rfl⟩ := List.mem_map.mp hx
      exact nd.2.2 a (best_flds mo q a ha) b (List.mem_flatMap.mpr ⟨r, hr, best_flds mo r b hbx⟩)
  | he ps ih =>
    intro h nd
    rw [eit_ok] at h
    rw [Part.flds, fldss_eq] at nd
    rw [Part.best, bests_map]
    cases ps with
    | nil => simp
    | cons p ps =>
      have h0 := maxB_mem (ps.map (Part.best mo)) (p.best mo)
      rw [← List.map_cons] at h0
      obtain ⟨q, hq, e⟩ := List.mem_map.mp h0
      show (maxB (p.best mo) (ps.map (Part.best mo))).2.Nodup
      rw [← e]
      exact ih q hq (h.2.2 q hq) (nodup_of_flatMap nd hq)
theorem best_ne {mo : Nat → Int} {n : Nat} : ∀ {p : Part}, p.ok n → (p.best mo).2 ≠ [] := by
  intro p
  induction p using Part.ind with
  | hf k a b => intro _; rw [Part.best]; simp
  | hr a s l b ps ih =>
    intro h hc
    rw [row_ok] at h
    rw [Part.best, bests_map] at hc
    obtain ⟨q, qs, rfl⟩ := List.exists_cons_of_ne_nil h.2.2.2.2.1
    have hc' : ((q :: qs).map (Part.best mo)).flatMap (·.2) = [] := hc
    rw [List.map_cons, List.flatMap_cons, List.append_eq_nil_iff] at hc'
    exact ih q (by simp) (h.2.2.2.2.2.2 q (by simp)) hc'.1
  | he ps ih =>
    intro h
    rw [eit_ok] at h
    rw [Part.best, bests_map]
    cases ps with
    | nil => exact absurd rfl h.1
    | cons p ps =>
      have h0 := maxB_mem (ps.map (Part.best mo)) (p.best mo)
      rw [← List.map_cons] at h0
      obtain ⟨q, hq, e⟩ := List.mem_map.mp h0
      show (maxB (p.best mo) (ps.map (Part.best mo))).2 ≠ []
      rw [← e]
      exact ih q hq (h.2.2 q hq)
end Ev
/-! Me: sorted pairs. -/
namespace Ev
open PySem L2
theorem eP_toPy (p : Tx × Tx) : (eP p).toPy = .tuple [.str ⟨p.1.toArray⟩, .str ⟨p.2.toArray⟩] := rfl
theorem lt_eP (a b : Tx × Tx) : dlt (eP a) (eP b) = if a.1 = b.1 then decide (a.2 < b.2) else decide (a.1 < b.1) := by
  unfold dlt
  rw [eP_toPy, eP_toPy, PySem.W.dataLt_pair rfl rfl, PySem.W.dataLt_str, PySem.W.dataLt_str]
  simp only [PyData.eqv, beq_iff_eq]
  by_cases h1 : a.1 = b.1
  · by_cases h2 : a.2 = b.2
    · simp [h1, h2, List.lt_irrefl]
    · have : ¬ (a.2.toArray = b.2.toArray) := fun e => h2 (by simpa using e)
      simp [h1, h2]
  · simp [h1]
theorem srtP (xs : List (Tx × Tx)) : ∃ P : List (Tx × Tx), srtD (xs.map eP) = P.map eP ∧ P.Perm xs ∧ ((xs.map (·.1)).Nodup → P.Pairwise fun a b => a.1 < b.1) := by
  refine ⟨xs.mergeSort fun a b => PySem.W.dataLe false D.toPy (eP a) (eP b), ?_, List.mergeSort_perm _ _, fun nd => ?_⟩
  · unfold srtD
    rw [PySem.W.sort_maps (s := PySem.W.dataLe false D.toPy) eP fun _ _ _ _ => rfl]
  · have T : PySem.W.TotalLe fun a b : Tx × Tx => PySem.W.dataLe false D.toPy (eP a) (eP b) := PySem.W.sortLe_total (PyProof.Rows.listOrd PyProof.Rows.itemOrd) false fun a : Tx × Tx => PySem.W.keyToks (eP a).toPy
    have h1 := PySem.W.sort_pairwise T xs
    have h2 : ((xs.mergeSort fun a b => PySem.W.dataLe false D.toPy (eP a) (eP b)).map (·.1)).Nodup := ((List.mergeSort_perm xs _).map _).nodup_iff.mpr nd
    have h3 : (xs.mergeSort fun a b => PySem.W.dataLe false D.toPy (eP a) (eP b)).Pairwise fun a b => a.1 ≠ b.1 := by
      rw [List.Nodup, List.pairwise_map] at h2
      exact h2
    refine (h1.and h3).imp fun {a b} h => ?_
    obtain ⟨h4, h5⟩ := h
    have h6 : dlt (eP b) (eP a) = false := by
      have : (!dlt (eP b) (eP a)) = true := h4
      simpa using this
    rw [lt_eP, if_neg fun e => h5 e.symm] at h6
    have h7 := of_decide_eq_false h6
    apply Classical.byContradiction
    intro h8
    exact h5 (List.le_antisymm (List.not_lt.mp h7) (List.not_lt.mp h8))
end Ev
/-! Mj: the jar of draws: the first thing of the store. -/
namespace Ev
open PySem L2
def Jb (t : Int) (cs : List Int) : Ob := .lst [.int t, .lst (cs.map D.int)]
/-- the cells of a jar -/
structure Cells (cs : List Int) : Prop where
  ne : cs ≠ []
  lo : ∀ c ∈ cs, 0 ≤ c ∧ c < 1048576
  len : cs.length ≤ 100
def pick (cs : List Int) (i : Int) : Int := (atI cs (i % cs.length)).getD 0
theorem atI_map {α β : Type} (f : α → β) (xs : List α) (i : Int) : atI (xs.map f) i = (atI xs i).map f := by
  unfold atI
  rw [List.length_map]
  cases ixN xs.length i with
  | none => rfl
  | some j => simp
theorem atI_mod {α : Type} {xs : List α} (h : xs ≠ []) (i : Int) : ∃ x ∈ xs, atI xs (i % xs.length) = some x := by
  have hl : 0 < xs.length := List.length_pos_iff.mpr h
  have h1 := Int.emod_nonneg i (show (xs.length : Int) ≠ 0 by omega)
  have h2 := Int.emod_lt_of_pos i (show (0 : Int) < xs.length by omega)
  obtain ⟨k, hk⟩ : ∃ k : Nat, i % xs.length = k := ⟨(i % xs.length).toNat, by omega⟩
  have hkl : k < xs.length := by omega
  rw [hk, at_n, List.getElem?_eq_getElem hkl]
  exact ⟨_, List.getElem_mem hkl, rfl⟩
theorem pick_at {cs : List Int} (h : Cells cs) (i : Int) : atI (cs.map D.int) (i % cs.length) = some (.int (pick cs i)) := by
  obtain ⟨x, _, e⟩ := atI_mod h.ne i
  rw [atI_map, e]
  unfold pick
  rw [e]; rfl
theorem pick_lo {cs : List Int} (h : Cells cs) (i : Int) : 0 ≤ pick cs i ∧ pick cs i < 1048576 := by
  obtain ⟨x, hx, e⟩ := atI_mod h.ne i
  unfold pick
  rw [e]
  exact h.lo x hx
/-- what is handed back: the jar may have gone on -/
theorem leave_jar {k : Nat} {t t' : Int} {cs : List Int} {T U : Sto} {d : D} (h : d.bel (T.length + 1) = true) : leave (.trim k) (Jb t cs :: T) (.rt d (Jb t' cs :: (T ++ U))) = .ok d (Jb t' cs :: T) := by
  unfold leave
  dsimp only
  have e : thaw (Jb t cs :: T).length (Jb t' cs :: (T ++ U)) k d = d := thaw_bel k d (by simpa using h)
  have o : oldOk (Jb t cs :: T) (Jb t' cs :: (T ++ U)) := by
    refine ⟨by simp, fun l hl => ?_⟩
    cases l with
    | zero =>
      refine .inr ⟨Jb t' cs, rfl, ?_⟩
      show (true && ((D.lst (cs.map D.int)).bel _ && true)) = true
      rw [show (D.lst (cs.map D.int)).bel (Jb t cs :: T).length = bels (Jb t cs :: T).length (cs.map D.int) from rfl, belsq_map fun _ _ => rfl]; rfl
    | succ l =>
      refine .inl ?_
      simp only [List.getElem?_cons_succ]
      rw [List.getElem?_append_left (by simpa using hl)]
  rw [e, gd_pos ⟨o, by simpa using h⟩]
  simp
theorem leave_jar0 {k : Nat} {t t' : Int} {cs : List Int} {T : Sto} {d : D} (h : d.bel (T.length + 1) = true) : leave (.trim k) (Jb t cs :: T) (.rt d (Jb t' cs :: T)) = .ok d (Jb t' cs :: T) := by
  have := leave_jar (k := k) (t := t) (t' := t') (cs := cs) (T := T) (U := []) h
  simpa using this
theorem sizes_snoc (p : Part) : ∀ ps : List Part, sizes (ps ++ [p]) = sizes ps + p.size
  | [] => by simp [sizes]
  | q :: ps => by rw [List.cons_append, sizes, sizes_snoc p ps, sizes]; omega
theorem dps_le {n : Nat} : ∀ {ps : List Part}, (∀ p ∈ ps, p.dp ≤ n) → dps ps ≤ n
  | [], _ => by simp [dps]
  | q :: ps, h => by
    rw [dps]
    have h1 := h q (by simp)
    have h2 := dps_le (ps := ps) fun r hr => h r (by simp [hr])
    omega
end Ev
/-! UK87: each call is its body. -/
namespace Ev
namespace K87
open PySem L2
theorem u_law {m : Nat} (a0 : D) (S : Sto) : callF G tab (m + 1) "law" [a0] S = leave (.trim 9) S (evB (G.cx (callF G tab m)) (.cons (.set (.one 1) (.cal "_law_jar" (.cons (.var 0) .nil))) (.cons (.set (.one 2) (.cmp .Eq (.cal "_law_draw" (.cons (.var 1) (.cons (.con (.int 13)) .nil))) (.con (.int 8)))) (.cons (.set (.one 3) (.ite (.var 2) (.con (.int 24)) (.bin .Add (.con (.int 1)) (.cal "_law_draw" (.cons (.var 1) (.cons (.con (.int 6)) .nil)))))) (.cons (.set (.one 4) (.cal "_law_template" (.cons (.var 1) (.cons (.blt .min2 (.cons (.var 3) (.cons (.con (.int 12)) .nil))) (.cons (.bin .Add (.con (.int 1)) (.cal "_law_draw" (.cons (.var 1) (.cons (.ite (.var 2) (.con (.int 2)) (.con (.int 3))) .nil)))) .nil))))) (.cons (.ifs (.var 2) (.cons (.set (.one 14) (.cal "_law_template" (.cons (.var 1) (.cons (.con (.int 12)) (.cons (.con (.int 2)) .nil))))) (.cons (.set (.one 15) (.blt .tuple (.cons (.comp [8] (.one 8) (.rng1 (.con (.int 12))) .no (.tup (.cons (.bin .Add (.con (.str [110])) (.blt .str1 (.cons (.var 8) .nil))) (.cons (.idx (.idx (.idx (.var 14) (.con (.int 0))) (.var 8)) (.con (.int 1))) (.cons (.idx (.idx (.idx (.var 14) (.con (.int 0))) (.var 8)) (.con (.int 2))) .nil))))) .nil))) (.cons (.set (.one 4) (.tup (.cons (.bin .Add (.idx (.var 4) (.con (.int 0))) (.var 15)) (.cons (.tup (.cons (.con (.str [114, 111, 119])) (.cons (.con (.str [])) (.cons (.cal "_law_text" (.cons (.var 1) .nil)) (.cons (.con .non) (.cons (.con (.str [])) (.cons (.tup (.cons (.idx (.var 4) (.con (.int 1))) (.cons (.cal "_law_moved" (.cons (.idx (.var 14) (.con (.int 1))) (.cons (.con (.int 12)) .nil))) .nil))) .nil))))))) (.cons (.con (.str [])) .nil))))) .nil))) .nil) (.cons (.set (.one 5) (.ite (.var 2) (.con .non) (.cal "_law_rows" (.cons (.var 4) .nil)))) (.cons (.set (.one 6) (.comp [19] (.one 19) (.seq (.idx (.var 4) (.con (.int 0)))) .no (.idx (.var 19) (.con (.int 2))))) (.cons (.set (.one 7) (.cal "_law_longest" (.cons (.var 4) (.cons (.var 5) (.cons (.var 6) .nil))))) (.cons (.ifs (.nt (.cal "_law_same" (.cons (.cal "longest" (.cons (.var 4) .nil)) (.cons (.var 7) .nil)))) (.cons (.ret (.con (.bl false))) .nil) .nil) (.cons (.for_ (.one 8) (.rng1 (.ite (.var 2) (.con (.int 2)) (.con (.int 3)))) (.cons (.set (.one 16) (.cal "_law_draw" (.cons (.var 1) (.cons (.var 3) .nil)))) (.cons (.set (.one 17) (.ite (.cmp .Lt (.var 8) (.con (.int 2))) (.blt .max2 (.cons (.con (.int 0)) (.cons (.bin .Add (.bin .Sub (.var 7) (.con (.int 4))) (.cal "_law_draw" (.cons (.var 1) (.cons (.con (.int 9)) .nil)))) .nil))) (.bin .Add (.var 7) (.cal "_law_draw" (.cons (.var 1) (.cons (.con (.int 40)) .nil)))))) (.cons (.ifs (.nt (.cal "_law_asked" (.cons (.var 4) (.cons (.var 5) (.cons (.var 16) (.cons (.var 17) .nil)))))) (.cons (.ret (.con (.bl false))) .nil) .nil) .nil)))) (.cons (.par [16, 17] (.cons (.cal "_law_draw" (.cons (.var 1) (.cons (.var 3) .nil))) (.cons (.bin .Add (.var 7) (.cal "_law_draw" (.cons (.var 1) (.cons (.con (.int 3)) .nil)))) .nil))) (.cons (.for_ (.one 9) (.seq (.tup (.cons (.var 17) (.cons (.con (.int 0)) (.cons (.con (.int 9999)) .nil))))) (.cons (.set (.one 18) (.live (.lst .nil))) (.cons (.for_ (.one 8) (.rng1 (.var 3)) (.cons (.set (.one 20) (.cal "_law_most" (.cons (.var 4) (.cons (.var 5) (.cons (.var 8) (.cons (.var 9) .nil)))))) (.cons (.ifs (.and (.cons (.cmp .IsNot (.var 20) (.con .non)) (.cons (.cmp .Gt (.var 20) (.idx (.var 6) (.var 8))) .nil))) (.cons (.expr (.mth .append (.var 18) (.cons (.idx (.idx (.idx (.var 4) (.con (.int 0))) (.var 8)) (.con (.int 0))) .nil))) .nil) .nil) .nil))) (.cons (.ifs (.nt (.cal "_law_same" (.cons (.cal "room_for" (.cons (.var 4) (.cons (.var 9) .nil))) (.cons (.blt .tuple (.cons (.blt .sorted (.cons (.var 18) .nil)) .nil)) .nil)))) (.cons (.ret (.con (.bl false))) .nil) .nil) .nil)))) (.cons (.ifs (.nt (.cal "_law_same" (.cons (.calk "most_for" ["number", "name", "template"] (.cons (.con (.int 0)) (.cons (.idx (.idx (.idx (.var 4) (.con (.int 0))) (.var 16)) (.con (.int 0))) (.cons (.var 4) .nil)))) (.cons (.con .non) .nil)))) (.cons (.ret (.con (.bl false))) .nil) .nil) (.cons (.set (.one 10) (.idx (.tup (.cons (.con (.str [110, 111, 98, 111, 100, 121, 57])) (.cons (.con (.str [])) (.cons (.con (.str [110, 111, 110, 101])) (.cons (.con (.str [65])) .nil))))) (.cal "_law_draw" (.cons (.var 1) (.cons (.con (.int 4)) .nil))))) (.cons (.set (.one 11) (.idx (.tup (.cons (.con (.int 0)) (.cons (.con (.int 41)) (.cons (.neg (.con (.int 1))) (.cons (.con (.int 40)) .nil))))) (.cal "_law_draw" (.cons (.var 1) (.cons (.con (.int 4)) .nil))))) (.cons (.set (.one 12) (.tup (.cons (.cal "_law_refused" (.cons (.con (.int 0)) (.cons (.var 4) (.cons (.var 10) (.cons (.var 17) .nil))))) (.cons (.cal "_law_refused" (.cons (.con (.int 1)) (.cons (.var 4) (.cons (.var 10) (.cons (.var 11) .nil))))) (.cons (.cal "_law_refused" (.cons (.con (.int 1)) (.cons (.var 4) (.cons (.idx (.idx (.idx (.var 4) (.con (.int 0))) (.var 16)) (.con (.int 0))) (.cons (.var 11) .nil))))) .nil))))) (.cons (.set (.one 13) (.ite (.cmp .Eq (.var 11) (.con (.int 40))) (.tup (.cons (.con (.str [116, 111, 108, 100])) (.cons (.cal "_law_changed" (.cons (.var 4) (.cons (.var 16) (.cons (.con (.int 40)) .nil)))) .nil))) (.tup (.cons (.con (.str [114, 101, 102, 117, 115, 101, 100])) (.cons (.con (.str [109, 111, 115, 116])) .nil))))) (.cons (.ret (.cal "_law_same" (.cons (.var 12) (.cons (.tup (.cons (.tup (.cons (.con (.str [114, 101, 102, 117, 115, 101, 100])) (.cons (.con (.str [102, 105, 101, 108, 100])) .nil))) (.cons (.tup (.cons (.con (.str [114, 101, 102, 117, 115, 101, 100])) (.cons (.con (.str [102, 105, 101, 108, 100])) .nil))) (.cons (.var 13) .nil)))) .nil)))) .nil)))))))))))))))))) [some a0, none, none, none, none, none, none, none, none, none, none, none, none, none, none, none, none, none, none, none, none] S) := by
  rw [callF_s (f := f_law) (by rfl)]; exact if_pos rfl
theorem u__law_jar {m : Nat} (a0 : D) (S : Sto) : callF G tab (m + 1) "_law_jar" [a0] S = leave .raw S (evB (G.cx (callF G tab m)) (.cons (.set (.one 1) (.comp [3] (.one 3) (.seq (.slc (.var 0) .no (.so (.con (.int 40))))) .no (.bin .Mod (.blt .int1 (.cons (.var 3) .nil)) (.con (.int 1000289))))) (.cons (.set (.one 2) (.bin .Add (.con (.int 43)) (.bin .Mod (.blt .len (.cons (.var 0) .nil)) (.con (.int 67))))) (.cons (.for_ (.one 3) (.seq (.var 1)) (.cons (.set (.one 2) (.bin .Mod (.bin .Add (.bin .Mult (.var 2) (.con (.int 37))) (.var 3)) (.con (.int 999683)))) .nil)) (.cons (.ret (.live (.lst (.cons (.con (.int 0)) (.cons (.bin .Add (.var 1) (.lst (.cons (.var 2) .nil))) .nil))))) .nil)))) [some a0, none, none, none] S) := by
  rw [callF_s (f := f__law_jar) (by rfl)]; exact if_pos rfl
theorem u__law_draw {m : Nat} (a0 a1 : D) (S : Sto) : callF G tab (m + 1) "_law_draw" [a0, a1] S = leave .raw S (evB (G.cx (callF G tab m)) (.cons (.put (.var 0) (.con (.int 0)) (.bin .Add (.idx (.var 0) (.con (.int 0))) (.con (.int 1)))) (.cons (.par [3, 4] (.cons (.idx (.var 0) (.con (.int 0))) (.cons (.idx (.var 0) (.con (.int 1))) .nil))) (.cons (.set (.one 2) (.bin .Add (.bin .Add (.bin .Mult (.idx (.var 4) (.bin .Mod (.var 3) (.blt .len (.cons (.var 4) .nil)))) (.bin .Add (.bin .Mult (.con (.int 5)) (.var 3)) (.con (.int 2207)))) (.bin .Mult (.idx (.var 4) (.bin .Mod (.bin .Add (.bin .Mult (.con (.int 3)) (.var 3)) (.con (.int 1))) (.blt .len (.cons (.var 4) .nil)))) (.con (.int 2011)))) (.bin .Mult (.bin .Mult (.var 3) (.var 3)) (.con (.int 38011))))) (.cons (.ret (.bin .Mod (.bin .FloorDiv (.bin .Mod (.var 2) (.con (.int 2147483423))) (.con (.int 15))) (.var 1))) .nil)))) [some a0, some a1, none, none, none] S) := by
  rw [callF_s (f := f__law_draw) (by rfl)]; exact if_pos rfl
theorem u__law_template {m : Nat} (a0 a1 a2 : D) (S : Sto) : callF G tab (m + 1) "_law_template" [a0, a1, a2] S = leave .raw S (evB (G.cx (callF G tab m)) (.cons (.set (.one 3) (.tup (.cons (.con (.str [110, 111])) (.cons (.con (.str [107])) (.cons (.con (.str [115, 116, 114, 101, 101, 116])) (.cons (.con (.str [98, 50])) (.cons (.con (.str [97])) (.cons (.con (.str [122, 122, 57])) (.cons (.con (.str [104])) (.cons (.con (.str [109, 109])) (.cons (.con (.str [119, 101, 115, 116])) (.cons (.con (.str [112])) (.cons (.con (.str [99])) (.cons (.con (.str [114, 111, 119, 49])) (.cons (.con (.str [100, 100])) .nil))))))))))))))) (.cons (.par [6, 7] (.cons (.cal "_law_draw" (.cons (.var 0) (.cons (.con (.int 13)) .nil))) (.cons (.bin .Add (.con (.int 1)) (.cal "_law_draw" (.cons (.var 0) (.cons (.con (.int 12)) .nil)))) .nil))) (.cons (.set (.one 4) (.tup .nil)) (.cons (.for_ (.one 5) (.rng1 (.var 1)) (.cons (.set (.one 8) (.idx (.tup (.cons (.con (.str [108, 101, 116, 116, 101, 114, 115])) (.cons (.con (.str [100, 105, 103, 105, 116, 115])) (.cons (.con (.str [115, 105, 103, 110, 115])) .nil)))) (.cal "_law_draw" (.cons (.var 0) (.cons (.con (.int 3)) .nil))))) (.cons (.set (.one 4) (.bin .Add (.var 4) (.tup (.cons (.tup (.cons (.idx (.var 3) (.bin .Mod (.bin .Add (.var 6) (.bin .Mult (.var 5) (.var 7))) (.con (.int 13)))) (.cons (.var 8) (.cons (.idx (.tup (.cons (.con (.int 1)) (.cons (.con (.int 2)) (.cons (.con (.int 3)) (.cons (.con (.int 9)) (.cons (.con (.int 40)) (.cons (.con (.int 4)) .nil))))))) (.cal "_law_draw" (.cons (.var 0) (.cons (.con (.int 6)) .nil)))) .nil)))) .nil)))) .nil))) (.cons (.ret (.tup (.cons (.var 4) (.cons (.cal "_law_part" (.cons (.var 0) (.cons (.con (.int 0)) (.cons (.var 1) (.cons (.var 2) .nil))))) (.cons (.ite (.cal "_law_draw" (.cons (.var 0) (.cons (.con (.int 2)) .nil))) (.cal "_law_text" (.cons (.var 0) .nil)) (.con (.str []))) .nil))))) .nil))))) [some a0, some a1, some a2, none, none, none, none, none, none] S) := by
  rw [callF_s (f := f__law_template) (by rfl)]; exact if_pos rfl
theorem u__law_text {m : Nat} (a0 : D) (S : Sto) : callF G tab (m + 1) "_law_text" [a0] S = leave .raw S (evB (G.cx (callF G tab m)) (.cons (.ret (.idx (.tup (.cons (.con (.str [])) (.cons (.con (.str [59, 32])) (.cons (.con (.str [45, 45])) (.cons (.con (.str [32])) (.cons (.con (.str [])) (.cons (.con (.str [58])) (.cons (.con (.str [40, 32])) (.cons (.con (.str [120])) (.cons (.con (.str [])) (.cons (.con (.str [44, 32])) (.cons (.con (.str [101, 116, 99])) .nil)))))))))))) (.cal "_law_draw" (.cons (.var 0) (.cons (.con (.int 11)) .nil))))) .nil) [some a0] S) := by
  rw [callF_s (f := f__law_text) (by rfl)]; exact if_pos rfl
theorem u__law_moved {m : Nat} (a0 a1 : D) (S : Sto) : callF G tab (m + 1) "_law_moved" [a0, a1] S = leave .raw S (evB (G.cx (callF G tab m)) (.cons (.ifs (.cmp .Eq (.idx (.var 0) (.con (.int 0))) (.con (.str [102, 105, 101, 108, 100]))) (.cons (.ret (.bin .Add (.tup (.cons (.idx (.var 0) (.con (.int 0))) (.cons (.bin .Add (.idx (.var 0) (.con (.int 1))) (.var 1)) .nil))) (.slc (.var 0) (.so (.con (.int 2))) .no))) .nil) .nil) (.cons (.ret (.bin .Add (.slc (.var 0) .no (.so (.neg (.con (.int 1))))) (.tup (.cons (.blt .tuple (.cons (.comp [2] (.one 2) (.seq (.idx (.var 0) (.neg (.con (.int 1))))) .no (.cal "_law_moved" (.cons (.var 2) (.cons (.var 1) .nil)))) .nil)) .nil)))) .nil)) [some a0, some a1, none] S) := by
  rw [callF_s (f := f__law_moved) (by rfl)]; exact if_pos rfl
theorem u__law_rows {m : Nat} (a0 : D) (S : Sto) : callF G tab (m + 1) "_law_rows" [a0] S = leave (.trim 9) S (evB (G.cx (callF G tab m)) (.cons (.par [3, 4, 5] (.cons (.live (.lst .nil)) (.cons (.blt .len (.cons (.idx (.var 0) (.con (.int 0))) .nil)) (.cons (.lst (.cons (.lst .nil) .nil)) .nil)))) (.cons (.for_ (.one 1) (.rng1 (.var 4)) (.cons (.set (.one 5) (.bin .Add (.var 5) (.comp [7] (.one 7) (.seq (.var 5)) .no (.bin .Add (.var 7) (.lst (.cons (.var 1) .nil)))))) .nil)) (.cons (.for_ (.one 2) (.seq (.slc (.var 5) (.so (.con (.int 1))) .no)) (.cons (.set (.one 6) (.cal "_law_put" (.cons (.idx (.var 0) (.con (.int 1))) (.cons (.comp [1] (.one 1) (.rng1 (.var 4)) .no (.ite (.cmp .In (.var 1) (.var 2)) (.con (.str [])) (.con .non))) .nil)))) (.cons (.expr (.mth .append (.var 3) (.cons (.tup (.cons (.blt .sum (.cons (.comp [1, 8] (.tup (.cons (.one 1) (.cons (.one 8) .nil))) (.seq (.var 6)) .no (.blt .len (.cons (.var 8) .nil))) .nil)) (.cons (.comp [1, 8] (.tup (.cons (.one 1) (.cons (.one 8) .nil))) (.seq (.var 6)) (.so (.cmp .GtE (.var 1) (.con (.int 0)))) (.var 1)) .nil))) .nil))) .nil))) (.cons (.ret (.var 3)) .nil)))) [some a0, none, none, none, none, none, none, none, none] S) := by
  rw [callF_s (f := f__law_rows) (by rfl)]; exact if_pos rfl
theorem u__law_longest {m : Nat} (a0 a1 a2 : D) (S : Sto) : callF G tab (m + 1) "_law_longest" [a0, a1, a2] S = leave .raw S (evB (G.cx (callF G tab m)) (.cons (.ifs (.cmp .Is (.var 1) (.con .non)) (.cons (.ret (.cal "_law_great" (.cons (.idx (.var 0) (.con (.int 1))) (.cons (.var 2) .nil)))) .nil) .nil) (.cons (.ret (.blt .max1 (.cons (.comp [3, 4] (.tup (.cons (.one 3) (.cons (.one 4) .nil))) (.seq (.var 1)) .no (.bin .Add (.var 3) (.blt .sum (.cons (.comp [5] (.one 5) (.seq (.var 4)) .no (.idx (.var 2) (.var 5))) .nil)))) .nil))) .nil)) [some a0, some a1, some a2, none, none, none] S) := by
  rw [callF_s (f := f__law_longest) (by rfl)]; exact if_pos rfl
theorem u__law_same {m : Nat} (a0 a1 : D) (S : Sto) : callF G tab (m + 1) "_law_same" [a0, a1] S = leave (.trim 9) S (evB (G.cx (callF G tab m)) (.cons (.set (.one 2) (.live (.lst (.cons (.tup (.cons (.var 0) (.cons (.var 1) .nil))) .nil)))) (.cons (.for_ (.one 3) (.rng1 (.con (.int 3000000))) (.cons (.ifs (.cmp .Eq (.blt .len (.cons (.var 2) .nil)) (.con (.int 0))) (.cons (.ret (.con (.bl true))) .nil) .nil) (.cons (.set (.tup (.cons (.one 4) (.cons (.one 5) .nil))) (.mth .pop (.var 2) .nil)) (.cons (.ifs (.or (.cons (.isi (.var 5) "tuple") (.cons (.isi (.var 5) "list") .nil))) (.cons (.ifs (.and (.cons (.isi (.var 5) "tuple") (.cons (.nt (.isi (.var 4) "tuple")) .nil))) (.cons (.ret (.con (.bl false))) .nil) .nil) (.cons (.ifs (.and (.cons (.isi (.var 5) "list") (.cons (.nt (.isi (.var 4) "list")) .nil))) (.cons (.ret (.con (.bl false))) .nil) .nil) (.cons (.ifs (.cmp .NotEq (.blt .len (.cons (.var 4) .nil)) (.blt .len (.cons (.var 5) .nil))) (.cons (.ret (.con (.bl false))) .nil) .nil) (.cons (.for_ (.one 6) (.rng1 (.blt .len (.cons (.var 5) .nil))) (.cons (.expr (.mth .append (.var 2) (.cons (.tup (.cons (.idx (.var 4) (.var 6)) (.cons (.idx (.var 5) (.var 6)) .nil))) .nil))) .nil)) .nil)))) (.cons (.ifs (.cmp .Is (.var 5) (.con .non)) (.cons (.ifs (.cmp .IsNot (.var 4) (.con .non)) (.cons (.ret (.con (.bl false))) .nil) .nil) .nil) (.cons (.ifs (.isi (.var 5) "bool") (.cons (.ifs (.or (.cons (.nt (.isi (.var 4) "bool")) (.cons (.cmp .NotEq (.var 4) (.var 5)) .nil))) (.cons (.ret (.con (.bl false))) .nil) .nil) .nil) (.cons (.ifs (.isi (.var 5) "int") (.cons (.ifs (.or (.cons (.nt (.isi (.var 4) "int")) (.cons (.isi (.var 4) "bool") (.cons (.cmp .NotEq (.var 4) (.var 5)) .nil)))) (.cons (.ret (.con (.bl false))) .nil) .nil) .nil) (.cons (.ifs (.or (.cons (.nt (.isi (.var 5) "str")) (.cons (.nt (.isi (.var 4) "str")) (.cons (.cmp .NotEq (.var 4) (.var 5)) .nil)))) (.cons (.ret (.con (.bl false))) .nil) .nil) .nil)) .nil)) .nil)) .nil)) .nil)))) (.cons (.ret (.con (.bl false))) .nil))) [some a0, some a1, none, none, none, none, none] S) := by
  rw [callF_s (f := f__law_same) (by rfl)]; exact if_pos rfl
theorem u_longest {m : Nat} (a0 : D) (S : Sto) : callF G tab (m + 1) "longest" [a0] S = leave .raw S (evB (G.cx (callF G tab m)) (.cons (.ret (.idx (.cal "best_of" (.cons (.var 0) (.cons (.idx (.var 0) (.con (.int 1))) (.cons (.con (.bl true)) .nil)))) (.con (.int 0)))) .nil) [some a0] S) := by
  rw [callF_s (f := f_longest) (by rfl)]; exact if_pos rfl
theorem u__law_asked {m : Nat} (a0 a1 a2 a3 : D) (S : Sto) : callF G tab (m + 1) "_law_asked" [a0, a1, a2, a3] S = leave .raw S (evB (G.cx (callF G tab m)) (.cons (.par [6, 7] (.cons (.cal "_law_most" (.cons (.var 0) (.cons (.var 1) (.cons (.var 2) (.cons (.var 3) .nil))))) (.cons (.idx (.idx (.idx (.var 0) (.con (.int 0))) (.var 2)) (.con (.int 0))) .nil))) (.cons (.ifs (.nt (.cal "_law_same" (.cons (.cal "_law_refused" (.cons (.con (.int 0)) (.cons (.var 0) (.cons (.var 7) (.cons (.var 3) .nil))))) (.cons (.tup (.cons (.con (.str [116, 111, 108, 100])) (.cons (.var 6) .nil))) .nil)))) (.cons (.ret (.con (.bl false))) .nil) .nil) (.cons (.ifs (.cmp .Is (.var 6) (.con .non)) (.cons (.ret (.cal "_law_breaks" (.cons (.var 0) (.cons (.var 3) (.cons (.cal "verdict_of" (.cons (.var 0) (.cons (.tup (.cons (.con (.str [109, 111, 115, 116])) (.cons (.var 3) .nil))) .nil))) .nil))))) .nil) .nil) (.cons (.set (.one 4) (.cal "_law_changed" (.cons (.var 0) (.cons (.var 2) (.cons (.var 6) .nil))))) (.cons (.ifs (.nt (.cal "_law_same" (.cons (.cal "_law_refused" (.cons (.con (.int 1)) (.cons (.var 0) (.cons (.var 7) (.cons (.var 6) .nil))))) (.cons (.tup (.cons (.con (.str [116, 111, 108, 100])) (.cons (.var 4) .nil))) .nil)))) (.cons (.ret (.con (.bl false))) .nil) .nil) (.cons (.ifs (.nt (.cal "_law_same" (.cons (.cal "verdict_of" (.cons (.var 4) (.cons (.tup (.cons (.con (.str [109, 111, 115, 116])) (.cons (.var 3) .nil))) .nil))) (.cons (.tup (.cons (.con (.str [107, 101, 112, 116])) .nil)) .nil)))) (.cons (.ret (.con (.bl false))) .nil) .nil) (.cons (.ifs (.cmp .Eq (.var 6) (.con (.int 40))) (.cons (.ret (.con (.bl true))) .nil) .nil) (.cons (.set (.one 5) (.cal "_law_changed" (.cons (.var 0) (.cons (.var 2) (.cons (.bin .Add (.var 6) (.con (.int 1))) .nil))))) (.cons (.ret (.cal "_law_breaks" (.cons (.var 5) (.cons (.var 3) (.cons (.cal "verdict_of" (.cons (.var 5) (.cons (.tup (.cons (.con (.str [109, 111, 115, 116])) (.cons (.var 3) .nil))) .nil))) .nil))))) .nil))))))))) [some a0, some a1, some a2, some a3, none, none, none, none] S) := by
  rw [callF_s (f := f__law_asked) (by rfl)]; exact if_pos rfl
theorem u__law_most {m : Nat} (a0 a1 a2 a3 : D) (S : Sto) : callF G tab (m + 1) "_law_most" [a0, a1, a2, a3] S = leave .raw S (evB (G.cx (callF G tab m)) (.cons (.par [4, 5, 6] (.cons (.comp [8] (.one 8) (.seq (.idx (.var 0) (.con (.int 0)))) .no (.idx (.var 8) (.con (.int 2)))) (.cons (.con (.int 0)) (.cons (.con (.int 41)) .nil)))) (.cons (.whl (.cmp .Gt (.bin .Sub (.var 6) (.var 5)) (.con (.int 1))) (.cons (.set (.one 7) (.bin .FloorDiv (.bin .Add (.var 5) (.var 6)) (.con (.int 2)))) (.cons (.ifs (.cmp .LtE (.cal "_law_longest" (.cons (.var 0) (.cons (.var 1) (.cons (.bin .Add (.bin .Add (.slc (.var 4) .no (.so (.var 2))) (.lst (.cons (.var 7) .nil))) (.slc (.var 4) (.so (.bin .Add (.var 2) (.con (.int 1)))) .no)) .nil)))) (.var 3)) (.cons (.set (.one 5) (.var 7)) .nil) (.cons (.set (.one 6) (.var 7)) .nil)) .nil))) (.cons (.ret (.ite (.cmp .Gt (.var 5) (.con (.int 0))) (.var 5) (.con .non))) .nil))) [some a0, some a1, some a2, some a3, none, none, none, none, none] S) := by
  rw [callF_s (f := f__law_most) (by rfl)]; exact if_pos rfl
theorem u_room_for {m : Nat} (a0 a1 : D) (S : Sto) : callF G tab (m + 1) "room_for" [a0, a1] S = leave .raw S (evB (G.cx (callF G tab m)) (.cons (.ret (.blt .tuple (.cons (.blt .sorted (.cons (.comp [2, 3] (.tup (.cons (.one 2) (.cons (.one 3) .nil))) (.enu (.cal "field_names" (.cons (.var 0) .nil))) (.so (.cal "has_room" (.cons (.var 0) (.cons (.var 2) (.cons (.var 1) .nil))))) (.var 3)) .nil)) .nil))) .nil) [some a0, some a1, none, none] S) := by
  rw [callF_s (f := f_room_for) (by rfl)]; exact if_pos rfl
theorem u_most_for {m : Nat} (a0 a1 a2 : D) (S : Sto) : callF G tab (m + 1) "most_for" [a0, a1, a2] S = leave .raw S (evB (G.cx (callF G tab m)) (.cons (.ret (.cal "most_at" (.cons (.var 0) (.cons (.cal "field_number" (.cons (.var 0) (.cons (.var 1) .nil))) (.cons (.var 2) .nil))))) .nil) [some a0, some a1, some a2] S) := by
  rw [callF_s (f := f_most_for) (by rfl)]; exact if_pos rfl
theorem u__law_refused {m : Nat} (a0 a1 a2 a3 : D) (S : Sto) : callF G tab (m + 1) "_law_refused" [a0, a1, a2, a3] S = leave .raw S (evB (G.cx (callF G tab m)) (.cons (.tryr (.cons (.ret (.tup (.cons (.con (.str [116, 111, 108, 100])) (.cons (.ite (.cmp .Eq (.var 0) (.con (.int 0))) (.cal "most_for" (.cons (.var 1) (.cons (.var 2) (.cons (.var 3) .nil)))) (.cal "with_most" (.cons (.var 1) (.cons (.var 2) (.cons (.var 3) .nil))))) .nil)))) .nil) "BadStep" 4 (.cons (.con (.str [114, 101, 102, 117, 115, 101, 100])) (.cons (.exf 4 "word") .nil))) .nil) [some a0, some a1, some a2, some a3, none] S) := by
  rw [callF_s (f := f__law_refused) (by rfl)]; exact if_pos rfl
theorem u__law_changed {m : Nat} (a0 a1 a2 : D) (S : Sto) : callF G tab (m + 1) "_law_changed" [a0, a1, a2] S = leave .raw S (evB (G.cx (callF G tab m)) (.cons (.set (.tup (.cons (.one 3) (.cons (.one 4) (.cons (.one 5) .nil)))) (.idx (.idx (.var 0) (.con (.int 0))) (.var 1))) (.cons (.ret (.tup (.cons (.bin .Add (.bin .Add (.slc (.idx (.var 0) (.con (.int 0))) .no (.so (.var 1))) (.tup (.cons (.tup (.cons (.var 3) (.cons (.var 4) (.cons (.var 2) .nil)))) .nil))) (.slc (.idx (.var 0) (.con (.int 0))) (.so (.bin .Add (.var 1) (.con (.int 1)))) .no)) (.cons (.idx (.var 0) (.con (.int 1))) (.cons (.idx (.var 0) (.con (.int 2))) .nil))))) .nil)) [some a0, some a1, some a2, none, none, none] S) := by
  rw [callF_s (f := f__law_changed) (by rfl)]; exact if_pos rfl
theorem u__law_part {m : Nat} (a0 a1 a2 a3 : D) (S : Sto) : callF G tab (m + 1) "_law_part" [a0, a1, a2, a3] S = leave (.trim 9) S (evB (G.cx (callF G tab m)) (.cons (.ifs (.and (.cons (.cmp .Eq (.bin .Sub (.var 2) (.var 1)) (.con (.int 1))) (.cons (.or (.cons (.cmp .Eq (.var 3) (.con (.int 0))) (.cons (.cmp .Gt (.cal "_law_draw" (.cons (.var 0) (.cons (.con (.int 5)) .nil))) (.con (.int 0))) .nil))) .nil))) (.cons (.ret (.tup (.cons (.con (.str [102, 105, 101, 108, 100])) (.cons (.var 1) (.cons (.ite (.cmp .Eq (.cal "_law_draw" (.cons (.var 0) (.cons (.con (.int 3)) .nil))) (.con (.int 0))) (.cal "_law_text" (.cons (.var 0) .nil)) (.con (.str []))) (.cons (.ite (.cmp .Eq (.cal "_law_draw" (.cons (.var 0) (.cons (.con (.int 3)) .nil))) (.con (.int 0))) (.cal "_law_text" (.cons (.var 0) .nil)) (.con (.str []))) .nil)))))) .nil) .nil) (.cons (.set (.one 4) (.live (.lst (.cons (.var 1) .nil)))) (.cons (.for_ (.one 5) (.rng2 (.bin .Add (.var 1) (.con (.int 1))) (.var 2)) (.cons (.ifs (.or (.cons (.cmp .Eq (.var 3) (.con (.int 1))) (.cons (.cmp .Gt (.cal "_law_draw" (.cons (.var 0) (.cons (.con (.int 3)) .nil))) (.con (.int 0))) .nil))) (.cons (.expr (.mth .append (.var 4) (.cons (.var 5) .nil))) .nil) .nil) .nil)) (.cons (.expr (.mth .append (.var 4) (.cons (.var 2) .nil))) (.cons (.set (.one 6) (.blt .tuple (.cons (.comp [5] (.one 5) (.rng1 (.bin .Sub (.blt .len (.cons (.var 4) .nil)) (.con (.int 1)))) .no (.cal "_law_part" (.cons (.var 0) (.cons (.idx (.var 4) (.var 5)) (.cons (.idx (.var 4) (.bin .Add (.var 5) (.con (.int 1)))) (.cons (.bin .Sub (.var 3) (.con (.int 1))) .nil)))))) .nil))) (.cons (.ifs (.cmp .Eq (.cal "_law_draw" (.cons (.var 0) (.cons (.con (.int 3)) .nil))) (.con (.int 0))) (.cons (.ret (.tup (.cons (.con (.str [101, 105, 116, 104, 101, 114])) (.cons (.var 6) .nil)))) .nil) .nil) (.cons (.par [7, 8] (.cons (.ite (.cmp .Eq (.cal "_law_draw" (.cons (.var 0) (.cons (.con (.int 3)) .nil))) (.con (.int 0))) (.cal "_law_text" (.cons (.var 0) .nil)) (.con (.str []))) (.cons (.ite (.cmp .Eq (.cal "_law_draw" (.cons (.var 0) (.cons (.con (.int 3)) .nil))) (.con (.int 0))) (.cal "_law_text" (.cons (.var 0) .nil)) (.con (.str []))) .nil))) (.cons (.ret (.tup (.cons (.con (.str [114, 111, 119])) (.cons (.var 7) (.cons (.cal "_law_text" (.cons (.var 0) .nil)) (.cons (.ite (.cal "_law_draw" (.cons (.var 0) (.cons (.con (.int 2)) .nil))) (.cal "_law_text" (.cons (.var 0) .nil)) (.con .non)) (.cons (.var 8) (.cons (.var 6) .nil)))))))) .nil)))))))) [some a0, some a1, some a2, some a3, none, none, none, none, none] S) := by
  rw [callF_s (f := f__law_part) (by rfl)]; exact if_pos rfl
theorem u__law_put {m : Nat} (a0 a1 : D) (S : Sto) : callF G tab (m + 1) "_law_put" [a0, a1] S = leave (.trim 9) S (evB (G.cx (callF G tab m)) (.cons (.ifs (.cmp .Eq (.idx (.var 0) (.con (.int 0))) (.con (.str [102, 105, 101, 108, 100]))) (.cons (.ret (.lst (.cons (.tup (.cons (.neg (.con (.int 1))) (.cons (.idx (.var 0) (.con (.int 2))) .nil))) (.cons (.tup (.cons (.idx (.var 0) (.con (.int 1))) (.cons (.idx (.var 1) (.idx (.var 0) (.con (.int 1)))) .nil))) (.cons (.tup (.cons (.neg (.con (.int 1))) (.cons (.idx (.var 0) (.con (.int 3))) .nil))) .nil))))) .nil) .nil) (.cons (.set (.one 2) (.comp [5] (.one 5) (.seq (.idx (.var 0) (.bin .Sub (.blt .len (.cons (.var 0) .nil)) (.con (.int 1))))) (.so (.cal "_law_given" (.cons (.var 5) (.cons (.var 1) .nil)))) (.var 5))) (.cons (.ifs (.cmp .Eq (.idx (.var 0) (.con (.int 0))) (.con (.str [101, 105, 116, 104, 101, 114]))) (.cons (.ret (.cal "_law_put" (.cons (.idx (.var 2) (.con (.int 0))) (.cons (.var 1) .nil)))) .nil) .nil) (.cons (.set (.one 3) (.live (.lst (.cons (.tup (.cons (.neg (.con (.int 1))) (.cons (.idx (.var 0) (.con (.int 1))) .nil))) .nil)))) (.cons (.for_ (.one 4) (.rng1 (.blt .len (.cons (.var 2) .nil))) (.cons (.ifs (.cmp .Gt (.var 4) (.con (.int 0))) (.cons (.expr (.mth .append (.var 3) (.cons (.tup (.cons (.neg (.con (.int 1))) (.cons (.ite (.or (.cons (.cmp .Lt (.var 4) (.bin .Sub (.blt .len (.cons (.var 2) .nil)) (.con (.int 1)))) (.cons (.cmp .Is (.idx (.var 0) (.con (.int 3))) (.con .non)) .nil))) (.idx (.var 0) (.con (.int 2))) (.idx (.var 0) (.con (.int 3)))) .nil))) .nil))) .nil) .nil) (.cons (.expr (.mth .extend (.var 3) (.cons (.cal "_law_put" (.cons (.idx (.var 2) (.var 4)) (.cons (.var 1) .nil))) .nil))) .nil))) (.cons (.ret (.bin .Add (.var 3) (.lst (.cons (.tup (.cons (.neg (.con (.int 1))) (.cons (.idx (.var 0) (.con (.int 4))) .nil))) .nil)))) .nil)))))) [some a0, some a1, none, none, none, none] S) := by
  rw [callF_s (f := f__law_put) (by rfl)]; exact if_pos rfl
theorem u__law_great {m : Nat} (a0 a1 : D) (S : Sto) : callF G tab (m + 1) "_law_great" [a0, a1] S = leave .raw S (evB (G.cx (callF G tab m)) (.cons (.ifs (.cmp .Eq (.idx (.var 0) (.con (.int 0))) (.con (.str [102, 105, 101, 108, 100]))) (.cons (.ret (.bin .Add (.bin .Add (.blt .len (.cons (.idx (.var 0) (.con (.int 2))) .nil)) (.idx (.var 1) (.idx (.var 0) (.con (.int 1))))) (.blt .len (.cons (.idx (.var 0) (.con (.int 3))) .nil)))) .nil) .nil) (.cons (.set (.one 2) (.comp [4] (.one 4) (.seq (.idx (.var 0) (.neg (.con (.int 1))))) .no (.cal "_law_great" (.cons (.var 4) (.cons (.var 1) .nil))))) (.cons (.ifs (.cmp .Eq (.idx (.var 0) (.con (.int 0))) (.con (.str [101, 105, 116, 104, 101, 114]))) (.cons (.ret (.blt .max1 (.cons (.var 2) .nil))) .nil) .nil) (.cons (.set (.one 3) (.bin .Add (.bin .Add (.blt .len (.cons (.idx (.var 0) (.con (.int 1))) .nil)) (.blt .sum (.cons (.var 2) .nil))) (.blt .len (.cons (.idx (.var 0) (.con (.int 4))) .nil)))) (.cons (.ifs (.cmp .Gt (.blt .len (.cons (.var 2) .nil)) (.con (.int 1))) (.cons (.set (.one 3) (.bin .Add (.bin .Add (.var 3) (.bin .Mult (.bin .Sub (.blt .len (.cons (.var 2) .nil)) (.con (.int 2))) (.blt .len (.cons (.idx (.var 0) (.con (.int 2))) .nil)))) (.blt .len (.cons (.ite (.cmp .Is (.idx (.var 0) (.con (.int 3))) (.con .non)) (.idx (.var 0) (.con (.int 2))) (.idx (.var 0) (.con (.int 3)))) .nil)))) .nil) .nil) (.cons (.ret (.var 3)) .nil)))))) [some a0, some a1, none, none, none] S) := by
  rw [callF_s (f := f__law_great) (by rfl)]; exact if_pos rfl
theorem u_best_of {m : Nat} (a0 a1 a2 : D) (S : Sto) : callF G tab (m + 1) "best_of" [a0, a1, a2] S = leave .raw S (evB (G.cx (callF G tab m)) (.cons (.ifs (.cmp .Eq (.idx (.var 1) (.con (.int 0))) (.con (.str [102, 105, 101, 108, 100]))) (.cons (.ret (.tup (.cons (.bin .Add (.cal "texts_length" (.cons (.var 1) .nil)) (.ite (.var 2) (.idx (.idx (.idx (.var 0) (.con (.int 0))) (.idx (.var 1) (.con (.int 1)))) (.con (.int 2))) (.con (.int 1)))) (.cons (.lst (.cons (.idx (.var 1) (.con (.int 1))) .nil)) .nil)))) .nil) .nil) (.cons (.set (.one 3) (.comp [6] (.one 6) (.seq (.idx (.var 1) (.neg (.con (.int 1))))) .no (.cal "best_of" (.cons (.var 0) (.cons (.var 6) (.cons (.var 2) .nil)))))) (.cons (.ifs (.and (.cons (.cmp .Eq (.idx (.var 1) (.con (.int 0))) (.con (.str [114, 111, 119]))) (.cons (.var 2) .nil))) (.cons (.ret (.cal "long_row" (.cons (.var 1) (.cons (.var 3) .nil)))) .nil) .nil) (.cons (.set (.tup (.cons (.one 4) (.cons (.one 5) .nil))) (.ite (.var 2) (.blt .max1 (.cons (.var 3) .nil)) (.blt .min1 (.cons (.var 3) .nil)))) (.cons (.ret (.tup (.cons (.bin .Add (.cal "texts_length" (.cons (.var 1) .nil)) (.var 4)) (.cons (.var 5) .nil)))) .nil))))) [some a0, some a1, some a2, none, none, none, none] S) := by
  rw [callF_s (f := f_best_of) (by rfl)]; exact if_pos rfl
theorem u__law_breaks {m : Nat} (a0 a1 a2 : D) (S : Sto) : callF G tab (m + 1) "_law_breaks" [a0, a1, a2] S = leave (.trim 9) S (evB (G.cx (callF G tab m)) (.cons (.ifs (.or (.cons (.nt (.isi (.var 2) "tuple")) (.cons (.cmp .NotEq (.blt .len (.cons (.var 2) .nil)) (.con (.int 2))) (.cons (.nt (.cal "_law_same" (.cons (.idx (.var 2) (.con (.int 0))) (.cons (.con (.str [98, 114, 111, 107, 101, 110])) .nil)))) (.cons (.nt (.isi (.idx (.var 2) (.con (.int 1))) "tuple")) .nil))))) (.cons (.ret (.con (.bl false))) .nil) .nil) (.cons (.par [4, 5] (.cons (.con (.str [])) (.cons (.live (.comp [7] (.one 7) (.seq (.idx (.var 0) (.con (.int 0)))) .no (.con .non))) .nil))) (.cons (.for_ (.one 3) (.seq (.idx (.var 2) (.con (.int 1)))) (.cons (.ifs (.or (.cons (.nt (.isi (.var 3) "tuple")) (.cons (.cmp .NotEq (.blt .len (.cons (.var 3) .nil)) (.con (.int 2))) (.cons (.nt (.isi (.idx (.var 3) (.con (.int 0))) "str")) (.cons (.nt (.isi (.idx (.var 3) (.con (.int 1))) "str")) .nil))))) (.cons (.ret (.con (.bl false))) .nil) .nil) (.cons (.set (.one 6) (.comp [8] (.one 8) (.rng1 (.blt .len (.cons (.var 5) .nil))) (.so (.cmp .Eq (.idx (.idx (.idx (.var 0) (.con (.int 0))) (.var 8)) (.con (.int 0))) (.idx (.var 3) (.con (.int 0))))) (.var 8))) (.cons (.ifs (.or (.cons (.cmp .Eq (.blt .len (.cons (.var 6) .nil)) (.con (.int 0))) (.cons (.cmp .LtE (.idx (.var 3) (.con (.int 0))) (.var 4)) (.cons (.nt (.chn .Lt .LtE (.con (.int 0)) (.blt .len (.cons (.idx (.var 3) (.con (.int 1))) .nil)) (.idx (.idx (.idx (.var 0) (.con (.int 0))) (.idx (.var 6) (.con (.int 0)))) (.con (.int 2))))) .nil)))) (.cons (.ret (.con (.bl false))) .nil) .nil) (.cons (.ifs (.cmp .Gt (.blt .len (.cons (.comp [9] (.one 9) (.seq (.idx (.var 3) (.con (.int 1)))) (.so (.cmp .NotIn (.var 9) (.cal "_law_kind" (.cons (.idx (.idx (.idx (.var 0) (.con (.int 0))) (.idx (.var 6) (.con (.int 0)))) (.con (.int 1))) .nil)))) (.var 9)) .nil)) (.con (.int 0))) (.cons (.ret (.con (.bl false))) .nil) .nil) (.cons (.set (.one 4) (.idx (.var 3) (.con (.int 0)))) (.cons (.put (.var 5) (.idx (.var 6) (.con (.int 0))) (.idx (.var 3) (.con (.int 1)))) .nil))))))) (.cons (.ifs (.cmp .Eq (.var 4) (.con (.str []))) (.cons (.ret (.con (.bl false))) .nil) .nil) (.cons (.ret (.cmp .Gt (.blt .sum (.cons (.comp [8, 10] (.tup (.cons (.one 8) (.cons (.one 10) .nil))) (.seq (.cal "_law_put" (.cons (.idx (.var 0) (.con (.int 1))) (.cons (.var 5) .nil)))) .no (.blt .len (.cons (.var 10) .nil))) .nil)) (.var 1))) .nil))))) [some a0, some a1, some a2, none, none, none, none, none, none, none, none] S) := by
  rw [callF_s (f := f__law_breaks) (by rfl)]; exact if_pos rfl
theorem u_verdict_of {m : Nat} (a0 a1 : D) (S : Sto) : callF G tab (m + 1) "verdict_of" [a0, a1] S = leave .raw S (evB (G.cx (callF G tab m)) (.cons (.set (.one 2) (.cal "breach_of" (.cons (.var 0) (.cons (.var 1) .nil)))) (.cons (.ret (.ite (.cmp .Is (.var 2) (.con .non)) (.tup (.cons (.glb "KEPT") .nil)) (.tup (.cons (.glb "BROKEN") (.cons (.var 2) .nil))))) .nil)) [some a0, some a1, none] S) := by
  rw [callF_s (f := f_verdict_of) (by rfl)]; exact if_pos rfl
theorem u_has_room {m : Nat} (a0 a1 a2 : D) (S : Sto) : callF G tab (m + 1) "has_room" [a0, a1, a2] S = leave .raw S (evB (G.cx (callF G tab m)) (.cons (.set (.one 3) (.cal "most_at" (.cons (.var 0) (.cons (.var 1) (.cons (.var 2) .nil))))) (.cons (.ret (.and (.cons (.cmp .IsNot (.var 3) (.con .non)) (.cons (.cmp .Gt (.var 3) (.idx (.idx (.idx (.var 0) (.con (.int 0))) (.var 1)) (.con (.int 2)))) .nil)))) .nil)) [some a0, some a1, some a2, none] S) := by
  rw [callF_s (f := f_has_room) (by rfl)]; exact if_pos rfl
theorem u_field_names {m : Nat} (a0 : D) (S : Sto) : callF G tab (m + 1) "field_names" [a0] S = leave .raw S (evB (G.cx (callF G tab m)) (.cons (.ret (.blt .tuple (.cons (.comp [1] (.one 1) (.seq (.idx (.var 0) (.con (.int 0)))) .no (.idx (.var 1) (.con (.int 0)))) .nil))) .nil) [some a0, none] S) := by
  rw [callF_s (f := f_field_names) (by rfl)]; exact if_pos rfl
theorem u_most_at {m : Nat} (a0 a1 a2 : D) (S : Sto) : callF G tab (m + 1) "most_at" [a0, a1, a2] S = leave .raw S (evB (G.cx (callF G tab m)) (.cons (.set (.one 3) (.comp [4] (.one 4) (.rng2 (.con (.int 1)) (.bin .Add (.glb "VALUE_MOST") (.con (.int 1)))) (.so (.cmp .LtE (.cal "longest" (.cons (.cal "with_length" (.cons (.var 0) (.cons (.var 1) (.cons (.var 4) .nil)))) .nil)) (.var 2))) (.var 4))) (.cons (.ret (.ite (.cmp .Gt (.blt .len (.cons (.var 3) .nil)) (.con (.int 0))) (.idx (.var 3) (.neg (.con (.int 1)))) (.con .non))) .nil)) [some a0, some a1, some a2, none, none] S) := by
  rw [callF_s (f := f_most_at) (by rfl)]; exact if_pos rfl
theorem u_field_number {m : Nat} (a0 a1 : D) (S : Sto) : callF G tab (m + 1) "field_number" [a0, a1] S = leave .raw S (evB (G.cx (callF G tab m)) (.cons (.set (.one 2) (.cal "field_names" (.cons (.var 0) .nil))) (.cons (.ifs (.cmp .NotIn (.var 1) (.var 2)) (.cons (.rai "BadStep" (.cons (.con (.str [102, 105, 101, 108, 100])) .nil)) .nil) .nil) (.cons (.ret (.mth .index (.var 2) (.cons (.var 1) .nil))) .nil))) [some a0, some a1, none] S) := by
  rw [callF_s (f := f_field_number) (by rfl)]; exact if_pos rfl
theorem u_with_most {m : Nat} (a0 a1 a2 : D) (S : Sto) : callF G tab (m + 1) "with_most" [a0, a1, a2] S = leave .raw S (evB (G.cx (callF G tab m)) (.cons (.set (.one 3) (.cal "field_number" (.cons (.var 0) (.cons (.var 1) .nil)))) (.cons (.ifs (.nt (.chn .LtE .LtE (.con (.int 1)) (.var 2) (.glb "VALUE_MOST"))) (.cons (.rai "BadStep" (.cons (.con (.str [109, 111, 115, 116])) .nil)) .nil) .nil) (.cons (.ret (.cal "with_field" (.cons (.var 0) (.cons (.var 3) (.cons (.bin .Add (.slc (.idx (.idx (.var 0) (.con (.int 0))) (.var 3)) .no (.so (.con (.int 2)))) (.tup (.cons (.var 2) .nil))) .nil))))) .nil))) [some a0, some a1, some a2, none] S) := by
  rw [callF_s (f := f_with_most) (by rfl)]; exact if_pos rfl
theorem u__law_given {m : Nat} (a0 a1 : D) (S : Sto) : callF G tab (m + 1) "_law_given" [a0, a1] S = leave .raw S (evB (G.cx (callF G tab m)) (.cons (.ret (.cmp .Gt (.blt .len (.cons (.comp [2] (.one 2) (.seq (.cal "_law_fields" (.cons (.var 0) .nil))) (.so (.cmp .IsNot (.idx (.var 1) (.var 2)) (.con .non))) (.var 2)) .nil)) (.con (.int 0)))) .nil) [some a0, some a1, none] S) := by
  rw [callF_s (f := f__law_given) (by rfl)]; exact if_pos rfl
theorem u_texts_length {m : Nat} (a0 : D) (S : Sto) : callF G tab (m + 1) "texts_length" [a0] S = leave .raw S (evB (G.cx (callF G tab m)) (.cons (.ret (.bin .Add (.blt .len (.cons (.cal "ahead_text" (.cons (.var 0) .nil)) .nil)) (.blt .len (.cons (.cal "behind_text" (.cons (.var 0) .nil)) .nil)))) .nil) [some a0] S) := by
  rw [callF_s (f := f_texts_length) (by rfl)]; exact if_pos rfl
theorem u_long_row {m : Nat} (a0 a1 : D) (S : Sto) : callF G tab (m + 1) "long_row" [a0, a1] S = leave (.trim 9) S (evB (G.cx (callF G tab m)) (.cons (.set (.one 2) (.ite (.cmp .Is (.idx (.var 0) (.con (.int 3))) (.con .non)) (.idx (.var 0) (.con (.int 2))) (.idx (.var 0) (.con (.int 3))))) (.cons (.set (.one 3) (.ite (.cmp .Gt (.blt .len (.cons (.var 1) .nil)) (.con (.int 1))) (.bin .Add (.bin .Mult (.blt .len (.cons (.idx (.var 0) (.con (.int 2))) .nil)) (.bin .Sub (.blt .len (.cons (.var 1) .nil)) (.con (.int 2)))) (.blt .len (.cons (.var 2) .nil))) (.con (.int 0)))) (.cons (.set (.one 4) (.live (.lst .nil))) (.cons (.for_ (.tup (.cons (.one 5) (.cons (.one 6) .nil))) (.seq (.var 1)) (.cons (.expr (.mth .extend (.var 4) (.cons (.var 6) .nil))) .nil)) (.cons (.ret (.tup (.cons (.bin .Add (.bin .Add (.cal "texts_length" (.cons (.var 0) .nil)) (.var 3)) (.blt .sum (.cons (.comp [7, 5] (.tup (.cons (.one 7) (.cons (.one 5) .nil))) (.seq (.var 1)) .no (.var 7)) .nil))) (.cons (.var 4) .nil)))) .nil))))) [some a0, some a1, none, none, none, none, none, none] S) := by
  rw [callF_s (f := f_long_row) (by rfl)]; exact if_pos rfl
theorem u__law_kind {m : Nat} (a0 : D) (S : Sto) : callF G tab (m + 1) "_law_kind" [a0] S = leave .raw S (evB (G.cx (callF G tab m)) (.cons (.set (.one 1) (.con (.str [65, 66, 67, 68, 69, 70, 71, 72, 73, 74, 75, 76, 77, 78, 79, 80, 81, 82, 83, 84, 85, 86, 87, 88, 89, 90, 97, 98, 99, 100, 101, 102, 103, 104, 105, 106, 107, 108, 109, 110, 111, 112, 113, 114, 115, 116, 117, 118, 119, 120, 121, 122]))) (.cons (.ret (.idx (.dsp [(.str [108, 101, 116, 116, 101, 114, 115]), (.str [100, 105, 103, 105, 116, 115]), (.str [115, 105, 103, 110, 115])] (.cons (.var 1) (.cons (.con (.str [48, 49, 50, 51, 52, 53, 54, 55, 56, 57])) (.cons (.bin .Add (.con (.str [48, 49, 50, 51, 52, 53, 54, 55, 56, 57])) (.var 1)) .nil)))) (.var 0))) .nil)) [some a0, none] S) := by
  rw [callF_s (f := f__law_kind) (by rfl)]; exact if_pos rfl
theorem u_breach_of {m : Nat} (a0 a1 : D) (S : Sto) : callF G tab (m + 1) "breach_of" [a0, a1] S = leave .raw S (evB (G.cx (callF G tab m)) (.cons (.ifs (.cmp .Eq (.idx (.var 1) (.con (.int 0))) (.con (.str [109, 111, 115, 116]))) (.cons (.ret (.ite (.cmp .Gt (.cal "longest" (.cons (.var 0) .nil)) (.idx (.var 1) (.con (.int 1)))) (.cal "longest_record" (.cons (.var 0) .nil)) (.con .non))) .nil) .nil) (.cons .any (.cons .any (.cons .any .nil)))) [some a0, some a1, none] S) := by
  rw [callF_s (f := f_breach_of) (by rfl)]; exact if_pos rfl
theorem u_with_length {m : Nat} (a0 a1 a2 : D) (S : Sto) : callF G tab (m + 1) "with_length" [a0, a1, a2] S = leave .raw S (evB (G.cx (callF G tab m)) (.cons (.ret (.cal "with_field" (.cons (.var 0) (.cons (.var 1) (.cons (.bin .Add (.slc (.idx (.idx (.var 0) (.con (.int 0))) (.var 1)) .no (.so (.con (.int 2)))) (.tup (.cons (.var 2) .nil))) .nil))))) .nil) [some a0, some a1, some a2] S) := by
  rw [callF_s (f := f_with_length) (by rfl)]; exact if_pos rfl
theorem u_with_field {m : Nat} (a0 a1 a2 : D) (S : Sto) : callF G tab (m + 1) "with_field" [a0, a1, a2] S = leave .raw S (evB (G.cx (callF G tab m)) (.cons (.ret (.bin .Add (.tup (.cons (.bin .Add (.bin .Add (.slc (.idx (.var 0) (.con (.int 0))) .no (.so (.var 1))) (.tup (.cons (.var 2) .nil))) (.slc (.idx (.var 0) (.con (.int 0))) (.so (.bin .Add (.var 1) (.con (.int 1)))) .no)) .nil)) (.slc (.var 0) (.so (.con (.int 1))) .no))) .nil) [some a0, some a1, some a2] S) := by
  rw [callF_s (f := f_with_field) (by rfl)]; exact if_pos rfl
theorem u__law_fields {m : Nat} (a0 : D) (S : Sto) : callF G tab (m + 1) "_law_fields" [a0] S = leave (.trim 9) S (evB (G.cx (callF G tab m)) (.cons (.ifs (.cmp .Eq (.idx (.var 0) (.con (.int 0))) (.con (.str [102, 105, 101, 108, 100]))) (.cons (.ret (.lst (.cons (.idx (.var 0) (.con (.int 1))) .nil))) .nil) .nil) (.cons (.set (.one 1) (.live (.lst .nil))) (.cons (.for_ (.one 2) (.seq (.idx (.var 0) (.bin .Sub (.blt .len (.cons (.var 0) .nil)) (.con (.int 1))))) (.cons (.expr (.mth .extend (.var 1) (.cons (.cal "_law_fields" (.cons (.var 2) .nil)) .nil))) .nil)) (.cons (.ret (.var 1)) .nil)))) [some a0, none, none] S) := by
  rw [callF_s (f := f__law_fields) (by rfl)]; exact if_pos rfl
theorem u_ahead_text {m : Nat} (a0 : D) (S : Sto) : callF G tab (m + 1) "ahead_text" [a0] S = leave .raw S (evB (G.cx (callF G tab m)) (.cons (.ifs (.cmp .Eq (.idx (.var 0) (.con (.int 0))) (.con (.str [101, 105, 116, 104, 101, 114]))) (.cons (.ret (.con (.str []))) .nil) .nil) (.cons (.ret (.ite (.cmp .Eq (.idx (.var 0) (.con (.int 0))) (.con (.str [102, 105, 101, 108, 100]))) (.idx (.var 0) (.con (.int 2))) (.idx (.var 0) (.con (.int 1))))) .nil)) [some a0] S) := by
  rw [callF_s (f := f_ahead_text) (by rfl)]; exact if_pos rfl
theorem u_behind_text {m : Nat} (a0 : D) (S : Sto) : callF G tab (m + 1) "behind_text" [a0] S = leave .raw S (evB (G.cx (callF G tab m)) (.cons (.ifs (.cmp .Eq (.idx (.var 0) (.con (.int 0))) (.con (.str [101, 105, 116, 104, 101, 114]))) (.cons (.ret (.con (.str []))) .nil) .nil) (.cons (.ret (.ite (.cmp .Eq (.idx (.var 0) (.con (.int 0))) (.con (.str [102, 105, 101, 108, 100]))) (.idx (.var 0) (.con (.int 3))) (.idx (.var 0) (.con (.int 4))))) .nil)) [some a0] S) := by
  rw [callF_s (f := f_behind_text) (by rfl)]; exact if_pos rfl
theorem u_longest_record {m : Nat} (a0 : D) (S : Sto) : callF G tab (m + 1) "longest_record" [a0] S = leave .raw S (evB (G.cx (callF G tab m)) (.cons (.ret (.cal "record_by" (.cons (.var 0) (.cons (.idx (.cal "best_of" (.cons (.var 0) (.cons (.idx (.var 0) (.con (.int 1))) (.cons (.con (.bl true)) .nil)))) (.con (.int 1))) (.cons (.con (.bl true)) .nil))))) .nil) [some a0] S) := by
  rw [callF_s (f := f_longest_record) (by rfl)]; exact if_pos rfl
theorem u_record_by {m : Nat} (a0 a1 a2 : D) (S : Sto) : callF G tab (m + 1) "record_by" [a0, a1, a2] S = leave (.trim 9) S (evB (G.cx (callF G tab m)) (.cons (.set (.one 3) (.live (.lst .nil))) (.cons (.for_ (.one 4) (.seq (.var 1)) (.cons (.set (.tup (.cons (.one 5) (.cons (.one 6) (.cons (.one 7) .nil)))) (.idx (.idx (.var 0) (.con (.int 0))) (.var 4))) (.cons (.expr (.mth .append (.var 3) (.cons (.tup (.cons (.var 5) (.cons (.bin .Mult (.gix "VALUE_SIGN" (.var 6)) (.ite (.var 2) (.var 7) (.con (.int 1)))) .nil))) .nil))) .nil))) (.cons (.ret (.blt .tuple (.cons (.blt .sorted (.cons (.var 3) .nil)) .nil))) .nil))) [some a0, some a1, some a2, none, none, none, none, none] S) := by
  rw [callF_s (f := f_record_by) (by rfl)]; exact if_pos rfl
end K87
end Ev
/-! P87a: what the defs of the program compute: lengths. -/
namespace Ev
namespace K87
open PySem L2
local macro_rules | `(tactic| walk_at "st") => `(tactic| simp only [asg_one, asg_tup, asgs_nil, asgsK_s, asgs_cons, setL_0, setL_s, consO_s, nxO_s, sqB_nx])
local macro_rules | `(tactic| walk_at "ev") => `(tactic| simp -implicitDefEqProofs (disch := first | assumption | omega | exact Nat.zero_le _ | (simp only [List.length_nil, List.length_cons, List.length_append, List.length_map, List.length_replicate, List.length_reverse, List.length_range]; omega)) only [varO_s, consO_s, setL_0, setL_s, asg_one, asg_tup, asgs_nil, asgsK_s, asgs_cons, setK_s, setAll_nil, setAll_cons, wipeN_0, wipeN_s, wipe_nil, wipe_cons, mkTup_ok, mkLst_ok, mkDic_ok, mkLive_l, negD_i, notD_b, revD_l, kwA_s, kwD_s, addA_ok, gixO_s, asI_i, rng1D_ok, rng2D_ok, putO_s, raiO_ok, nxO_s, ifE_t, ifE_f, ifS_t, ifS_f, andE_t, andE_f, orE_t, orE_f, kTup_k, kTup_x, kLst_k, kLst_x, kLive_k, kLive_x, kDic_k, kDic_x, kBin2_k, kBin2_x, kBin1_k, kBin1_x, kNeg_k, kNeg_x, kNot_k, kNot_x, kCmp2_k, kCmp2_x, kCmp1_k, kCmp1_x, chnO_t, chnO_f, kChn2_k, kChn2_x, kChn1_k, kChn1_x, kIf_k, kIf_x, kAnd_k, kAnd_x, kOr_k, kOr_x, kIdx2_k, kIdx2_x, kIdx1_k, kIdx1_x, kSlc3_k, kSlc3_x, kSlc2_k, kSlc2_x, kSlc1_k, kSlc1_x, kRev_k, kRev_x, kCal_k, kCal_x, kKw_k, kKw_x, kIsi_k, kIsi_x, kBlt_k, kBlt_x, kMth2_k, kMth2_x, mthG_t, kMth1_k, kMth1_x, kGix_k, kGix_x, kEs2_k, kEs2_x, kEs1_k, kEs1_x, kAsI_k, kAsI_x, kSeq_k, kSeq_x, kRng1_k, kRng1_x, kRng2b_k, kRng2b_x, kRng2a_k, kRng2a_x, kEnu2_k, kEnu2_x, kEnu1_k, kEnu1_x, kZip4_k, kZip4_x, kZip3_k, kZip3_x, kZip2_k, kZip2_x, kZip1_k, kZip1_x, kRvs2_k, kRvs2_x, kRvs1_k, kRvs1_x, addK_k, ifC_t, ifC_f, ifCK_k, turn0_s, turn1_s, turnS_s, kLstR_k, kComp0_k, kComp0_x, kComp1_k, kComp1_x, sExpr_k, sExpr_x, sSet_k, sSet_x, sPar_k, sPar_x, sPut3_k, sPut3_x, sPut2_k, sPut2_x, sPut1_k, sPut1_x, sIf_k, sIf_x, sFor_k, sFor_x, sRet_k, sRet_x, sRai_k, sRai_x, sqB_nx, sqB_rt, sqB_bk, sqB_ct, sqB_x, tryK_nx, tryK_rt, s_try, e_var, e_con, e_glb, e_tup, e_lst, e_dsp, e_live, e_bin, e_neg, e_nt, e_cmp, e_chn, e_and, e_or, e_ite, e_idx, e_slc, e_rev, e_cal, e_calk, e_isi, e_blt, e_mth, e_comp0, e_comp1, e_gix, es_nil, es_cons, ep_no, ep_so, ea_1, ea_2, eo_1, eo_2, ei_seq, ei_rng1, ei_rng2, ei_enu, ei_zip, ei_rvs, s_expr, s_set, s_par, s_put, s_ifs, s_whl, s_for, s_ret, s_retn, s_brk, s_cnt, s_pas, s_rai, b_nil, b_cons, cx_cal, cx_glb, cx_gdc, cx_kws, cx_fld, cx_sub, cx_fuel, leave_rt, leave_nx, leave_exc, drf_tup, drf_lst, drf_ro, drfq_str, drfq_int, drfq_bl, drfq_non, drf_dic, drf_loc, drO_l, bin_add_i, bin_add_s, bin_add_t, bin_add_l, addO_ok, bin_sub_i, bin_mul_i, bin_mul_s, bin_fdiv_i, bin_mod_i, idx_r, idxR_t, idxR_l, idxR_r, idxR_d, at_n, at_0, at_1, at_2, at_3, at_4, at_5, at_m1, len_l, len_t, len_r, len_s, len_loc, lenR_l, seqD_l, seqD_t, seqD_r, seqD_loc, seqR_l, tup_q, lst_q, srcD_l, srcD_t, srcD_r, srcD_s, srcQ_l, srcQ_t, srcD_loc, srcO_l, cmp_eq, cmp_ne, cmp_isN, cmp_isnN, isNon_n, isNon_i, isNon_s, isNon_t, isNon_l, isNon_o, cmp_in, cmp_nin, cmp_lt_i, cmp_le_i, cmp_gt_i, cmp_ge_i, cmp_le_s, cmp_lt_s, eq_i, eq_s, eq_b, eq_si, eq_is, tru_b, tru_i, tru_n, isi_t_tuple, isi_t_list, isi_t_str, isi_t_int, isi_t_bool, isi_l_tuple, isi_l_list, isi_l_str, isi_l_int, isi_l_bool, isi_s_tuple, isi_s_list, isi_s_str, isi_s_int, isi_s_bool, isi_i_tuple, isi_i_list, isi_i_str, isi_i_int, isi_i_bool, isi_b_tuple, isi_b_list, isi_b_str, isi_b_int, isi_b_bool, isiq_n, isL_l, ty_append, ty_extend, ty_pop, ty_index, ty_join, m_append, appO_ok, m_extend, extO_ok, m_pop, popO_ok, st_get0, st_get1, st_get2, st_get3, st_set0, st_set1, st_set2, st_app, st_len, fin_f, fin_tk, fin_tx, Res.nox_ok, Res.nox_exc, ofO_some, ofO_none, reo, List.getElem?_cons_zero, List.getElem?_cons_succ, List.length_cons, List.length_nil, List.cons_append, List.nil_append, Option.map_some, Option.map_none, List.getLast?_cons_cons, List.getLast?_singleton, decide_true, decide_false, Bool.not_true, Bool.not_false, Nat.zero_add, Nat.reduceAdd, Nat.reduceLeDiff, Nat.reduceLT, Int.reduceNeg, List.length_map, if_true, if_false, goes_nx, goes_ct, ends_nx, ends_ct, ends_rt, reduceCtorEq, false_and, and_false, and_true, true_and, Bool.and_true, Bool.and_false, eqS_nn, eqS_nc, eqS_cn, eqS_cc, eqS_self, Nat.reduceBEq, Bool.true_and, Bool.false_and, beq_self_eq_true, slc_r, slcR_t, slcR_l, slcR_r, slcR_s, cut_hi, cut_lo, toNat_s, srt_r, in_tup, m_index, ixO_s, Int.reduceToNat, Int.toNat_natCast, Int.reduceSub, Int.reduceAdd, List.take_succ_cons, List.take_zero, List.drop_succ_cons, List.drop_zero, Int.reduceLT, Int.reduceLE, cast_0, cast_1, Int.cast_ofNat_Int, bin_add_loc, addR_l, eq_self, isNon_b, isNon_r, isNon_d, put_loc, putR_0, putR_n, in_str1, Int.reduceEq, List.set_cons_zero, List.set_cons_succ, int1_i, min2_i, max2_i, okP_ok, cut_m1, Nat.reduceSub, Nat.add_one_sub_one, evOn_s, gd_nil, gdS_nil, fld_e, row_e, eit_e, eO_none, eO_some, leave_rt, leave_nx, leave_exc, *])
theorem ok_ahead_text {m : Nat} (h : 1 ≤ m) (p : Part) (S : Sto) : callF G tab m "ahead_text" [p.e] S = .ok (.str (Part.ahead p)) S := by
  obtain ⟨m, rfl⟩ := lev h
  rw [u_ahead_text]
  cases p <;> rfl
theorem ok_behind_text {m : Nat} (h : 1 ≤ m) (p : Part) (S : Sto) : callF G tab m "behind_text" [p.e] S = .ok (.str (Part.behind p)) S := by
  obtain ⟨m, rfl⟩ := lev h
  rw [u_behind_text]
  cases p <;> rfl
theorem ok_texts_length {m : Nat} (h : 2 ≤ m) (p : Part) (S : Sto) (ha : (Part.ahead p).length ≤ 12) (hb : (Part.behind p).length ≤ 12) : callF G tab m "texts_length" [p.e] S = .ok (.int ((Part.ahead p).length + (Part.behind p).length)) S := by
  obtain ⟨m, rfl⟩ := lev h
  have h1 := ok_ahead_text (m := m) (by omega) p
  have h2 := ok_behind_text (m := m) (by omega) p
  rw [u_texts_length]
  walk_at "ev"
theorem ok_long_row {m : Nat} (h : 3 ≤ m) (a s : Tx) (l : Option Tx) (b : Tx) (ps : List Part) (told : List (Int × List Nat)) (S : Sto) (ha : a.length ≤ 12) (hb : b.length ≤ 12) (hs : s.length ≤ 12) (hl : (l.getD s).length ≤ 12) (hn : told.length ≤ 60) (hz : (told.flatMap (·.2)).length ≤ 100000) :
    callF G tab m "long_row" [(Part.row a s l b ps).e, .lst (told.map eB)] S = .ok (eB (a.length + b.length + sepsOf s l told.length + (told.map (·.1)).sum, told.flatMap (·.2))) S := by
  obtain ⟨m, rfl⟩ := lev h
  have h1 := ok_texts_length (m := m) (by omega) (Part.row a s l b ps) (ha := ha) (hb := hb)
  rw [row_e] at h1
  rw [u_long_row, row_e]
  obtain ⟨last, hlast⟩ : ∃ x, l.getD s = x := ⟨_, rfl⟩
  obtain ⟨sp, hsp⟩ : ∃ x, sepsOf s l told.length = x := ⟨_, rfl⟩
  rw [hlast] at hl
  refine step_set (P := fun r => leave _ S r = _) (.str last) S (by cases l <;> walk_at "ev" <;> simp only [← hlast, Option.getD]) ?_
  walk_at "st"
  refine step_set (P := fun r => leave _ S r = _) (.int sp) S ?_ ?_
  · rw [← hsp, ← hlast, sepsOf]
    by_cases hc : 1 < (told.length : Int)
    · have hc' : 1 < told.length := by omega
      walk_at "ev"
    · have hc' : ¬ 1 < told.length := by omega
      walk_at "ev"
  walk_at "ev"
  refine use_for (e := eB) (P := fun r => leave _ S (sqB _ _ r) = _) (fun pre ls S' => ∃ o5 o6, ls = [some (D.tup [D.str sR, D.str a, D.str s, eO l, D.str b, D.tup (List.map Part.e ps)]), some (D.lst (List.map eB told)), some (.str last), some (.int sp), some (.loc S.length), o5, o6, none] ∧ S' = S ++ [.lst ((pre.flatMap (·.2)).map eK)]) ⟨_, _, rfl, rfl⟩ ?_ ?_
  · rintro pre y post _ _ he ⟨o5, o6, rfl, rfl⟩
    have : (pre.flatMap (·.2)).length + y.2.length ≤ 100000 := by
      rw [he] at hz; simp at hz ⊢; omega
    walk_at "ev"
    exact ⟨_, _, rfl, by simp⟩
  · rintro _ _ ⟨o5, o6, rfl, rfl⟩
    walk_at "ev"
    rw [comp0_one (e := eB) (g := fun y : Int × List Nat => .int y.1)]
    · walk_at "ev"
      rw [sum_ints]
      walk_at "ev"
      refine leave_thaw (d' := eB (a.length + b.length + sp + (told.map (·.1)).sum, told.flatMap (·.2))) ?_ ?_
      · simp [thaw, Part.ahead, Part.behind, thaw_bel, D.bel]
      · simp only [eB, D.bel, bels, Bool.true_and, Bool.and_true]; exact belsq_map fun _ _ => rfl
    · intro y hy
      walk_at "ev"
    · omega
theorem ok_best_of (t : Tpl) : ∀ (p : Part) {m : Nat} (S : Sto), p.dp + 4 ≤ m → p.ok t.fs.length → p.flds.length ≤ 100 → callF G tab m "best_of" [t.e, p.e, .bl true] S = .ok (eB (p.best t.mo)) S := by
  intro p
  induction p using Part.ind with
  | hf k a b =>
    intro m S hm hk _
    rw [Part.ok] at hk
    obtain ⟨m, rfl⟩ := lev (a := 3) (m := m) (by rw [Part.dp] at hm; omega)
    have h1 := ok_texts_length (m := m) (by rw [Part.dp] at hm; omega) (Part.fld k a b) (ha := hk.2.1) (hb := hk.2.2)
    have h2 := Tpl.mo_at hk.1
    have h3 := Tpl.mo_eq hk.1
    rw [u_best_of, tpl_e, fld_e]
    rw [fld_e] at h1
    rw [fld3_e] at h2
    walk_at "ev"
    rw [Part.best, h3]; rfl
  | hr a s l b ps ih =>
    intro m S hm hk hc
    rw [row_ok] at hk
    rw [Part.dp] at hm
    rw [Part.flds, fldss_eq] at hc
    obtain ⟨m, rfl⟩ := lev (a := 3) (m := m) (by omega)
    have hd : ∀ p ∈ ps, p.dp + 4 ≤ m := fun p hp => by have := dp_le hp; omega
    have hf : ∀ p ∈ ps, p.flds.length ≤ 100 := fun p hp => by have := flds_le hp; omega
    have h1 : ∀ p ∈ ps, callF G tab m "best_of" [t.e, p.e, .bl true] S = .ok (eB (p.best t.mo)) S := fun p hp => ih p hp S (hd p hp) (hk.2.2.2.2.2.2 p hp) (hf p hp)
    have hz : ((bests t.mo ps).flatMap (·.2)).length ≤ 100000 := by
      have := best_len t.mo (.row a s l b ps)
      rw [Part.best, Part.flds, fldss_eq] at this
      exact Nat.le_trans this (by omega)
    have h2 := ok_long_row (m := m) (by omega) a s l b ps (bests t.mo ps) S hk.1 hk.2.2.2.1 hk.2.1 hk.2.2.1 (by rw [bests_map, List.length_map]; exact hk.2.2.2.2.2.1) hz
    rw [row_e] at h2
    have h3 : ((ps.map Part.e).length : Int) = ps.length := by simp
    have hs : ps.length ≤ 60 := hk.2.2.2.2.2.1
    clear ih hk hd hf
    rw [u_best_of, row_e]
    walk_at "ev"
    rw [comp0_one (e := Part.e) (g := fun p => eB (p.best t.mo))]
    · rw [bests_map, List.map_map] at h2
      have h2' : callF G tab m "long_row" [D.tup [D.str sR, D.str a, D.str s, eO l, D.str b, D.tup (List.map Part.e ps)], D.lst (List.map (fun p => eB (p.best t.mo)) ps)] S = _ := h2
      clear h2
      walk_at "ev"
      rw [Part.best, bests_map]
    · intro p hp
      have := h1 p hp
      walk_at "ev"
    · omega
  | he ps ih =>
    intro m S hm hk hc
    rw [eit_ok] at hk
    rw [Part.dp] at hm
    rw [Part.flds, fldss_eq] at hc
    obtain ⟨m, rfl⟩ := lev (a := 3) (m := m) (by omega)
    have hd : ∀ p ∈ ps, p.dp + 4 ≤ m := fun p hp => by have := dp_le hp; omega
    have hf : ∀ p ∈ ps, p.flds.length ≤ 100 := fun p hp => by have := flds_le hp; omega
    have h1 : ∀ p ∈ ps, callF G tab m "best_of" [t.e, p.e, .bl true] S = .ok (eB (p.best t.mo)) S := fun p hp => ih p hp S (hd p hp) (hk.2.2 p hp) (hf p hp)
    have h2 := ok_texts_length (m := m) (by omega) (.eit ps) S (by simp [Part.ahead]) (by simp [Part.behind])
    rw [eit_e] at h2
    have hs : ps.length ≤ 60 := hk.2.1
    have hn := hk.1
    clear ih hk hd hf
    rw [u_best_of, eit_e]
    walk_at "ev"
    rw [comp0_one (e := Part.e) (g := fun p => eB (p.best t.mo))]
    · obtain ⟨q, qs, rfl⟩ := List.exists_cons_of_ne_nil hn
      have h3 : bltD S .max1 [.lst ((q :: qs).map fun p => eB (p.best t.mo))] = some (eB (maxB (q.best t.mo) (qs.map (Part.best t.mo)))) := by
        rw [← max_eB S, List.map_cons, List.map_cons, List.map_map]; rfl
      walk_at "ev"
      rw [Part.best, bests_map]
      simp [Part.ahead, Part.behind, eB]
    · intro p hp
      have := h1 p hp
      walk_at "ev"
    · omega
theorem ok_longest {m : Nat} (t : Tpl) (S : Sto) (hm : t.pt.dp + 5 ≤ m) (hk : t.pt.ok t.fs.length) (hc : t.pt.flds.length ≤ 100) : callF G tab m "longest" [t.e] S = .ok (.int (t.pt.best t.mo).1) S := by
  obtain ⟨m, rfl⟩ := lev (a := 4) (m := m) (by omega)
  have h1 := ok_best_of t t.pt (m := m) S (by omega) hk hc
  rw [tpl_e] at h1
  rw [u_longest, tpl_e]
  walk_at "ev"
end K87
end Ev
/-! P87b: what the defs of the program compute: records, fields. -/
namespace Ev
namespace K87
open PySem L2
local macro_rules | `(tactic| walk_at "ev") => `(tactic| simp -implicitDefEqProofs (disch := first | assumption | omega | exact Nat.zero_le _ | (simp only [List.length_nil, List.length_cons, List.length_append, List.length_map, List.length_replicate, List.length_reverse, List.length_range]; omega)) only [varO_s, consO_s, setL_0, setL_s, asg_one, asg_tup, asgs_nil, asgsK_s, asgs_cons, setK_s, setAll_nil, setAll_cons, wipeN_0, wipeN_s, wipe_nil, wipe_cons, mkTup_ok, mkLst_ok, mkDic_ok, mkLive_l, negD_i, notD_b, revD_l, kwA_s, kwD_s, addA_ok, gixO_s, asI_i, rng1D_ok, rng2D_ok, putO_s, raiO_ok, nxO_s, ifE_t, ifE_f, ifS_t, ifS_f, andE_t, andE_f, orE_t, orE_f, kTup_k, kTup_x, kLst_k, kLst_x, kLive_k, kLive_x, kDic_k, kDic_x, kBin2_k, kBin2_x, kBin1_k, kBin1_x, kNeg_k, kNeg_x, kNot_k, kNot_x, kCmp2_k, kCmp2_x, kCmp1_k, kCmp1_x, chnO_t, chnO_f, kChn2_k, kChn2_x, kChn1_k, kChn1_x, kIf_k, kIf_x, kAnd_k, kAnd_x, kOr_k, kOr_x, kIdx2_k, kIdx2_x, kIdx1_k, kIdx1_x, kSlc3_k, kSlc3_x, kSlc2_k, kSlc2_x, kSlc1_k, kSlc1_x, kRev_k, kRev_x, kCal_k, kCal_x, kKw_k, kKw_x, kIsi_k, kIsi_x, kBlt_k, kBlt_x, kMth2_k, kMth2_x, mthG_t, kMth1_k, kMth1_x, kGix_k, kGix_x, kEs2_k, kEs2_x, kEs1_k, kEs1_x, kAsI_k, kAsI_x, kSeq_k, kSeq_x, kRng1_k, kRng1_x, kRng2b_k, kRng2b_x, kRng2a_k, kRng2a_x, kEnu2_k, kEnu2_x, kEnu1_k, kEnu1_x, kZip4_k, kZip4_x, kZip3_k, kZip3_x, kZip2_k, kZip2_x, kZip1_k, kZip1_x, kRvs2_k, kRvs2_x, kRvs1_k, kRvs1_x, addK_k, ifC_t, ifC_f, ifCK_k, turn0_s, turn1_s, turnS_s, kLstR_k, kComp0_k, kComp0_x, kComp1_k, kComp1_x, sExpr_k, sExpr_x, sSet_k, sSet_x, sPar_k, sPar_x, sPut3_k, sPut3_x, sPut2_k, sPut2_x, sPut1_k, sPut1_x, sIf_k, sIf_x, sFor_k, sFor_x, sRet_k, sRet_x, sRai_k, sRai_x, sqB_nx, sqB_rt, sqB_bk, sqB_ct, sqB_x, tryK_nx, tryK_rt, s_try, e_var, e_con, e_glb, e_tup, e_lst, e_dsp, e_live, e_bin, e_neg, e_nt, e_cmp, e_chn, e_and, e_or, e_ite, e_idx, e_slc, e_rev, e_cal, e_calk, e_isi, e_blt, e_mth, e_comp0, e_comp1, e_gix, es_nil, es_cons, ep_no, ep_so, ea_1, ea_2, eo_1, eo_2, ei_seq, ei_rng1, ei_rng2, ei_enu, ei_zip, ei_rvs, s_expr, s_set, s_par, s_put, s_ifs, s_whl, s_for, s_ret, s_retn, s_brk, s_cnt, s_pas, s_rai, b_nil, b_cons, cx_cal, cx_glb, cx_gdc, cx_kws, cx_fld, cx_sub, cx_fuel, leave_rt, leave_nx, leave_exc, drf_tup, drf_lst, drf_ro, drfq_str, drfq_int, drfq_bl, drfq_non, drf_dic, drf_loc, drO_l, bin_add_i, bin_add_s, bin_add_t, bin_add_l, addO_ok, bin_sub_i, bin_mul_i, bin_mul_s, bin_fdiv_i, bin_mod_i, idx_r, idxR_t, idxR_l, idxR_r, idxR_d, at_n, at_0, at_1, at_2, at_3, at_4, at_5, at_m1, len_l, len_t, len_r, len_s, len_loc, lenR_l, seqD_l, seqD_t, seqD_r, seqD_loc, seqR_l, tup_q, lst_q, srcD_l, srcD_t, srcD_r, srcD_s, srcQ_l, srcQ_t, srcD_loc, srcO_l, cmp_eq, cmp_ne, cmp_isN, cmp_isnN, isNon_n, isNon_i, isNon_s, isNon_t, isNon_l, isNon_o, cmp_in, cmp_nin, cmp_lt_i, cmp_le_i, cmp_gt_i, cmp_ge_i, cmp_le_s, cmp_lt_s, eq_i, eq_s, eq_b, eq_si, eq_is, tru_b, tru_i, tru_n, isi_t_tuple, isi_t_list, isi_t_str, isi_t_int, isi_t_bool, isi_l_tuple, isi_l_list, isi_l_str, isi_l_int, isi_l_bool, isi_s_tuple, isi_s_list, isi_s_str, isi_s_int, isi_s_bool, isi_i_tuple, isi_i_list, isi_i_str, isi_i_int, isi_i_bool, isi_b_tuple, isi_b_list, isi_b_str, isi_b_int, isi_b_bool, isiq_n, isL_l, ty_append, ty_extend, ty_pop, ty_index, ty_join, m_append, appO_ok, m_extend, extO_ok, m_pop, popO_ok, st_get0, st_get1, st_get2, st_get3, st_set0, st_set1, st_set2, st_app, st_len, fin_f, fin_tk, fin_tx, Res.nox_ok, Res.nox_exc, ofO_some, ofO_none, reo, List.getElem?_cons_zero, List.getElem?_cons_succ, List.length_cons, List.length_nil, List.cons_append, List.nil_append, Option.map_some, Option.map_none, List.getLast?_cons_cons, List.getLast?_singleton, decide_true, decide_false, Bool.not_true, Bool.not_false, Nat.zero_add, Nat.reduceAdd, Nat.reduceLeDiff, Nat.reduceLT, Int.reduceNeg, List.length_map, if_true, if_false, goes_nx, goes_ct, ends_nx, ends_ct, ends_rt, reduceCtorEq, false_and, and_false, and_true, true_and, Bool.and_true, Bool.and_false, eqS_nn, eqS_nc, eqS_cn, eqS_cc, eqS_self, Nat.reduceBEq, Bool.true_and, Bool.false_and, beq_self_eq_true, slc_r, slcR_t, slcR_l, slcR_r, slcR_s, cut_hi, cut_lo, toNat_s, srt_r, in_tup, m_index, ixO_s, Int.reduceToNat, Int.toNat_natCast, Int.reduceSub, Int.reduceAdd, List.take_succ_cons, List.take_zero, List.drop_succ_cons, List.drop_zero, Int.reduceLT, Int.reduceLE, cast_0, cast_1, Int.cast_ofNat_Int, bin_add_loc, addR_l, eq_self, isNon_b, isNon_r, isNon_d, put_loc, putR_0, putR_n, in_str1, Int.reduceEq, List.set_cons_zero, List.set_cons_succ, int1_i, min2_i, max2_i, okP_ok, cut_m1, Nat.reduceSub, Nat.add_one_sub_one, evOn_s, gd_nil, gdS_nil, fld_e, row_e, eit_e, eO_none, eO_some, leave_rt, leave_nx, leave_exc, *])
theorem gdc_VS : G.gdc "VALUE_SIGN" = some ([.str sLet, .str sDig, .str sSig], [.str [97], .str [48], .str [97]]) := by simp [G]
theorem look_VS {kd : Tx} (h : kd = sLet ∨ kd = sDig ∨ kd = sSig) : look [.str sLet, .str sDig, .str sSig] [.str [97], .str [48], .str [97]] (.str kd) = some (.str (sgnK kd)) := by
  rcases h with rfl | rfl | rfl <;> rfl
theorem glb_VM : G.glb "VALUE_MOST" = some (.int 40) := by simp [G]
theorem glb_K : G.glb "KEPT" = some (.str [107, 101, 112, 116]) := by simp [G]
theorem glb_B : G.glb "BROKEN" = some (.str [98, 114, 111, 107, 101, 110]) := by simp [G]
theorem fld_BS : G.fld "BadStep" = ["word"] := by simp [G]
theorem eP_pur (p : Tx × Tx) : (eP p).pur = true := rfl
theorem eP_dep (p : Tx × Tx) : (eP p).dep ≤ 1 := by show deps [.str p.1, .str p.2] + 1 ≤ 1; simp [deps, D.dep]
theorem eP_alike (p q : Tx × Tx) : PySem.W.alike (eP p).toPy (eP q).toPy = true := rfl
theorem eP_tups : ∀ xs : List (Tx × Tx), tupsB (xs.map eP) = true := fun xs => by
  unfold tupsB
  rw [Bool.or_eq_true]
  left
  rw [List.all_eq_true]
  intro d hd
  obtain ⟨p, _, rfl⟩ := List.mem_map.mp hd
  rfl
theorem srt_eP (xs : List (Tx × Tx)) : srtR (.lst (xs.map eP)) = some (.lst (srtD (xs.map eP))) :=
  srtR_ok (purs_map eP_pur xs) (alikeB_map eP_alike xs) (eP_tups xs) (Nat.le_trans (deps_map eP_dep xs) (by decide))
theorem srt_bel (n : Nat) (xs : List (Tx × Tx)) : bels n (srtD (xs.map eP)) = true := bels_all.mpr fun d hd => by
  have := (List.mergeSort_perm (xs.map eP) (PySem.W.dataLe false D.toPy)).mem_iff.mp hd
  obtain ⟨p, _, rfl⟩ := List.mem_map.mp this
  rfl
theorem ok_record_by {m : Nat} (t : Tpl) (ht : t.ok) (F : List Nat) (S : Sto) (hm : 1 ≤ m) (hF : ∀ k ∈ F, k < t.fs.length) (hl : F.length ≤ 100) : callF G tab m "record_by" [t.e, .lst (F.map eK), .bl true] S = .ok (.tup (srtD ((F.map (recP t)).map eP))) S := by
  obtain ⟨m, rfl⟩ := lev hm
  rw [u_record_by, tpl_e]
  walk_at "ev"
  refine use_for (e := eK) (P := fun r => leave _ S (sqB _ _ r) = _) (fun pre ls S' => ∃ o4 o5 o6 o7, ls = [some (D.tup [D.tup (List.map Fld.e t.fs), t.pt.e, D.str t.no]), some (D.lst (List.map eK F)), some (.bl true), some (.loc S.length), o4, o5, o6, o7] ∧ S' = S ++ [.lst ((pre.map (recP t)).map eP)]) ⟨_, _, _, _, rfl, rfl⟩ ?_ ?_
  · rintro pre k post _ _ he ⟨o4, o5, o6, o7, rfl, rfl⟩
    have hk : k < t.fs.length := hF k (by rw [he]; simp)
    have h1 := Tpl.at hk
    have h2 := look_VS (kd := t.kd k) (by rw [Tpl.kd_eq hk]; exact (ht.at hk).1)
    have h3 := gdc_VS
    have h4 : 0 ≤ t.mo k ∧ t.mo k ≤ 100000 ∧ (sgnK (t.kd k)).length * (t.mo k).toNat ≤ 16777216 := by
      have := (ht.at hk).2
      rw [Tpl.mo_eq hk]
      refine ⟨by omega, by omega, ?_⟩
      have : (sgnK (t.kd k)).length = 1 := by unfold sgnK; split <;> rfl
      rw [this]; omega
    have h5 : pre.length < 16777216 := by have := congrArg List.length he; simp at this; omega
    walk_at "ev"
    exact ⟨_, _, _, _, rfl, by simp [recP]⟩
  · rintro _ _ ⟨o4, o5, o6, o7, rfl, rfl⟩
    have h1 := srt_eP (F.map (recP t))
    walk_at "ev"
    exact leave_bel (srt_bel _ _)
theorem ok_longest_record {m : Nat} (t : Tpl) (ht : t.ok) (S : Sto) (hm : t.pt.dp + 5 ≤ m) : callF G tab m "longest_record" [t.e] S = .ok (.tup (srtD (((t.pt.best t.mo).2.map (recP t)).map eP))) S := by
  obtain ⟨m, rfl⟩ := lev (a := 4) (m := m) (by omega)
  have h1 := ok_best_of t t.pt (m := m) S (by omega) ht.p ht.nl
  have h2 := ok_record_by (m := m) t ht (t.pt.best t.mo).2 S (by omega) (fun k hk => best_lt ht.p k hk) (Nat.le_trans (best_len _ _) ht.nl)
  rw [tpl_e] at h1 h2
  rw [u_longest_record, tpl_e]
  walk_at "ev"
theorem ok_field_names {m : Nat} (t : Tpl) (S : Sto) (hm : 1 ≤ m) (ht : t.fs.length ≤ 24) : callF G tab m "field_names" [t.e] S = .ok (.tup ((t.fs.map Fld.nm).map D.str)) S := by
  obtain ⟨m, rfl⟩ := lev hm
  rw [u_field_names, tpl_e]
  walk_at "ev"
  rw [comp0_one (e := Fld.e) (g := fun f => .str f.nm)]
  · walk_at "ev"
    rw [List.map_map]; rfl
  · intro f hf
    rw [fld3_e]
    walk_at "ev"
  · omega
theorem ok_field_number {m : Nat} (t : Tpl) (S : Sto) (hm : 2 ≤ m) (ht : t.fs.length ≤ 24) (nd : (t.fs.map Fld.nm).Nodup) {k : Nat} (hk : k < t.fs.length) : callF G tab m "field_number" [t.e, .str (t.nm k)] S = .ok (.int k) S := by
  obtain ⟨m, rfl⟩ := lev hm
  have h1 := ok_field_names (m := m) t S (by omega) ht
  have h2 : ((t.fs.map Fld.nm).any fun n => n == t.nm k) = true := by
    rw [List.any_eq_true]
    exact ⟨t.nm k, by rw [Tpl.nm_eq hk]; exact List.mem_map_of_mem (List.getElem_mem hk), by simp⟩
  have h3 : ((t.fs.map Fld.nm).findIdx? fun x => decide (x = t.nm k)) = some k := by
    rw [List.findIdx?_eq_some_iff_getElem]
    refine ⟨by simpa using hk, by simp [Tpl.nm_eq hk], fun j hj => ?_⟩
    intro hc
    have hc := of_decide_eq_true hc
    rw [Tpl.nm_eq hk] at hc
    have e : (t.fs.map Fld.nm)[j]'(by simp; omega) = (t.fs.map Fld.nm)[k]'(by simpa using hk) := by simpa using hc
    exact (List.pairwise_iff_getElem.mp nd) j k (by simp; omega) (by simpa using hk) hj e
  rw [u_field_number]
  walk_at "ev"
theorem no_field_number {m : Nat} (t : Tpl) (S : Sto) (hm : 2 ≤ m) (ht : t.fs.length ≤ 24) {x : Tx} (hx : x ∉ t.fs.map Fld.nm) : callF G tab m "field_number" [t.e, .str x] S = .exc "BadStep" [("word", .str sF)] S := by
  obtain ⟨m, rfl⟩ := lev hm
  have h1 := ok_field_names (m := m) t S (by omega) ht
  have h2 : ((t.fs.map Fld.nm).any fun n => n == x) = false := by
    rw [List.any_eq_false]
    intro n hn hc
    exact hx (by rw [← eq_of_beq hc]; exact hn)
  have h3 := fld_BS
  rw [u_field_number]
  walk_at "ev"
  rw [raiO_ok (by simp)]
  rfl
theorem wm_e (t : Tpl) (k : Nat) (x : Int) : (t.wm k x).e = .tup [.tup ((t.fs.map Fld.e).take k ++ [.tup [.str (t.nm k), .str (t.kd k), .int x]] ++ (t.fs.map Fld.e).drop (k + 1)), t.pt.e, .str t.no] := by
  rw [tpl_e, Tpl.wm]
  simp [Fld.e]
theorem ok_with_field {m : Nat} (t : Tpl) (S : Sto) (hm : 1 ≤ m) (ht : t.fs.length ≤ 24) (k : Nat) (x : Int) : callF G tab m "with_field" [t.e, .int k, .tup [.str (t.nm k), .str (t.kd k), .int x]] S = .ok (t.wm k x).e S := by
  obtain ⟨m, rfl⟩ := lev hm
  have hl : (t.fs.map Fld.e).length ≤ 24 := by simpa using ht
  have h1 : ((t.fs.map Fld.e).take k).length ≤ 24 := by rw [List.length_take]; omega
  have h2 : ((t.fs.map Fld.e).drop (k + 1)).length ≤ 24 := by rw [List.length_drop]; omega
  rw [u_with_field, wm_e, tpl_e]
  walk_at "ev"
theorem ok_with_length {m : Nat} (t : Tpl) (S : Sto) (hm : 2 ≤ m) (ht : t.fs.length ≤ 24) {k : Nat} (hk : k < t.fs.length) (x : Int) : callF G tab m "with_length" [t.e, .int k, .int x] S = .ok (t.wm k x).e S := by
  obtain ⟨m, rfl⟩ := lev hm
  have h1 := ok_with_field (m := m) t S (by omega) ht k x
  have h2 := Tpl.at hk
  rw [tpl_e] at h1
  rw [u_with_length, tpl_e]
  walk_at "ev"
end K87
end Ev
/-! P87c: what the defs of the program compute: room, verdicts. -/
namespace Ev
namespace K87
open PySem L2
local macro_rules | `(tactic| walk_at "ev") => `(tactic| simp -implicitDefEqProofs (disch := first | assumption | omega | exact Nat.zero_le _ | (simp only [List.length_nil, List.length_cons, List.length_append, List.length_map, List.length_replicate, List.length_reverse, List.length_range]; omega)) only [varO_s, consO_s, setL_0, setL_s, asg_one, asg_tup, asgs_nil, asgsK_s, asgs_cons, setK_s, setAll_nil, setAll_cons, wipeN_0, wipeN_s, wipe_nil, wipe_cons, mkTup_ok, mkLst_ok, mkDic_ok, mkLive_l, negD_i, notD_b, revD_l, kwA_s, kwD_s, addA_ok, gixO_s, asI_i, rng1D_ok, rng2D_ok, putO_s, raiO_ok, nxO_s, ifE_t, ifE_f, ifS_t, ifS_f, andE_t, andE_f, orE_t, orE_f, kTup_k, kTup_x, kLst_k, kLst_x, kLive_k, kLive_x, kDic_k, kDic_x, kBin2_k, kBin2_x, kBin1_k, kBin1_x, kNeg_k, kNeg_x, kNot_k, kNot_x, kCmp2_k, kCmp2_x, kCmp1_k, kCmp1_x, chnO_t, chnO_f, kChn2_k, kChn2_x, kChn1_k, kChn1_x, kIf_k, kIf_x, kAnd_k, kAnd_x, kOr_k, kOr_x, kIdx2_k, kIdx2_x, kIdx1_k, kIdx1_x, kSlc3_k, kSlc3_x, kSlc2_k, kSlc2_x, kSlc1_k, kSlc1_x, kRev_k, kRev_x, kCal_k, kCal_x, kKw_k, kKw_x, kIsi_k, kIsi_x, kBlt_k, kBlt_x, kMth2_k, kMth2_x, mthG_t, kMth1_k, kMth1_x, kGix_k, kGix_x, kEs2_k, kEs2_x, kEs1_k, kEs1_x, kAsI_k, kAsI_x, kSeq_k, kSeq_x, kRng1_k, kRng1_x, kRng2b_k, kRng2b_x, kRng2a_k, kRng2a_x, kEnu2_k, kEnu2_x, kEnu1_k, kEnu1_x, kZip4_k, kZip4_x, kZip3_k, kZip3_x, kZip2_k, kZip2_x, kZip1_k, kZip1_x, kRvs2_k, kRvs2_x, kRvs1_k, kRvs1_x, addK_k, ifC_t, ifC_f, ifCK_k, turn0_s, turn1_s, turnS_s, kLstR_k, kComp0_k, kComp0_x, kComp1_k, kComp1_x, sExpr_k, sExpr_x, sSet_k, sSet_x, sPar_k, sPar_x, sPut3_k, sPut3_x, sPut2_k, sPut2_x, sPut1_k, sPut1_x, sIf_k, sIf_x, sFor_k, sFor_x, sRet_k, sRet_x, sRai_k, sRai_x, sqB_nx, sqB_rt, sqB_bk, sqB_ct, sqB_x, tryK_nx, tryK_rt, s_try, e_var, e_con, e_glb, e_tup, e_lst, e_dsp, e_live, e_bin, e_neg, e_nt, e_cmp, e_chn, e_and, e_or, e_ite, e_idx, e_slc, e_rev, e_cal, e_calk, e_isi, e_blt, e_mth, e_comp0, e_comp1, e_gix, es_nil, es_cons, ep_no, ep_so, ea_1, ea_2, eo_1, eo_2, ei_seq, ei_rng1, ei_rng2, ei_enu, ei_zip, ei_rvs, s_expr, s_set, s_par, s_put, s_ifs, s_whl, s_for, s_ret, s_retn, s_brk, s_cnt, s_pas, s_rai, b_nil, b_cons, cx_cal, cx_glb, cx_gdc, cx_kws, cx_fld, cx_sub, cx_fuel, leave_rt, leave_nx, leave_exc, drf_tup, drf_lst, drf_ro, drfq_str, drfq_int, drfq_bl, drfq_non, drf_dic, drf_loc, drO_l, bin_add_i, bin_add_s, bin_add_t, bin_add_l, addO_ok, bin_sub_i, bin_mul_i, bin_mul_s, bin_fdiv_i, bin_mod_i, idx_r, idxR_t, idxR_l, idxR_r, idxR_d, at_n, at_0, at_1, at_2, at_3, at_4, at_5, at_m1, len_l, len_t, len_r, len_s, len_loc, lenR_l, seqD_l, seqD_t, seqD_r, seqD_loc, seqR_l, tup_q, lst_q, srcD_l, srcD_t, srcD_r, srcD_s, srcQ_l, srcQ_t, srcD_loc, srcO_l, cmp_eq, cmp_ne, cmp_isN, cmp_isnN, isNon_n, isNon_i, isNon_s, isNon_t, isNon_l, isNon_o, cmp_in, cmp_nin, cmp_lt_i, cmp_le_i, cmp_gt_i, cmp_ge_i, cmp_le_s, cmp_lt_s, eq_i, eq_s, eq_b, eq_si, eq_is, tru_b, tru_i, tru_n, isi_t_tuple, isi_t_list, isi_t_str, isi_t_int, isi_t_bool, isi_l_tuple, isi_l_list, isi_l_str, isi_l_int, isi_l_bool, isi_s_tuple, isi_s_list, isi_s_str, isi_s_int, isi_s_bool, isi_i_tuple, isi_i_list, isi_i_str, isi_i_int, isi_i_bool, isi_b_tuple, isi_b_list, isi_b_str, isi_b_int, isi_b_bool, isiq_n, isL_l, ty_append, ty_extend, ty_pop, ty_index, ty_join, m_append, appO_ok, m_extend, extO_ok, m_pop, popO_ok, st_get0, st_get1, st_get2, st_get3, st_set0, st_set1, st_set2, st_app, st_len, fin_f, fin_tk, fin_tx, Res.nox_ok, Res.nox_exc, ofO_some, ofO_none, reo, List.getElem?_cons_zero, List.getElem?_cons_succ, List.length_cons, List.length_nil, List.cons_append, List.nil_append, Option.map_some, Option.map_none, List.getLast?_cons_cons, List.getLast?_singleton, decide_true, decide_false, Bool.not_true, Bool.not_false, Nat.zero_add, Nat.reduceAdd, Nat.reduceLeDiff, Nat.reduceLT, Int.reduceNeg, List.length_map, if_true, if_false, goes_nx, goes_ct, ends_nx, ends_ct, ends_rt, reduceCtorEq, false_and, and_false, and_true, true_and, Bool.and_true, Bool.and_false, eqS_nn, eqS_nc, eqS_cn, eqS_cc, eqS_self, Nat.reduceBEq, Bool.true_and, Bool.false_and, beq_self_eq_true, slc_r, slcR_t, slcR_l, slcR_r, slcR_s, cut_hi, cut_lo, toNat_s, srt_r, in_tup, m_index, ixO_s, Int.reduceToNat, Int.toNat_natCast, Int.reduceSub, Int.reduceAdd, List.take_succ_cons, List.take_zero, List.drop_succ_cons, List.drop_zero, Int.reduceLT, Int.reduceLE, cast_0, cast_1, Int.cast_ofNat_Int, bin_add_loc, addR_l, eq_self, isNon_b, isNon_r, isNon_d, put_loc, putR_0, putR_n, in_str1, Int.reduceEq, List.set_cons_zero, List.set_cons_succ, int1_i, min2_i, max2_i, okP_ok, cut_m1, Nat.reduceSub, Nat.add_one_sub_one, evOn_s, gd_nil, gdS_nil, fld_e, row_e, eit_e, eO_none, eO_some, leave_rt, leave_nx, leave_exc, *])
theorem ok_with_most {m : Nat} (t : Tpl) (S : Sto) (hm : 3 ≤ m) (ht : t.fs.length ≤ 24) (nd : (t.fs.map Fld.nm).Nodup) {k : Nat} (hk : k < t.fs.length) (x : Int) (h1 : 1 ≤ x) (h2 : x ≤ 40) : callF G tab m "with_most" [t.e, .str (t.nm k), .int x] S = .ok (t.wm k x).e S := by
  obtain ⟨m, rfl⟩ := lev hm
  have e1 := ok_field_number (m := m) t S (by omega) ht nd hk
  have e2 := ok_with_field (m := m) t S (by omega) ht k x
  have e3 := Tpl.at hk
  have e4 := glb_VM
  rw [tpl_e] at e1 e2
  rw [u_with_most, tpl_e]
  walk_at "ev"
theorem no_with_most {m : Nat} (t : Tpl) (S : Sto) (hm : 3 ≤ m) (ht : t.fs.length ≤ 24) (nd : (t.fs.map Fld.nm).Nodup) {k : Nat} (hk : k < t.fs.length) (x : Int) (h : ¬ (1 ≤ x ∧ x ≤ 40)) : callF G tab m "with_most" [t.e, .str (t.nm k), .int x] S = .exc "BadStep" [("word", .str [109, 111, 115, 116])] S := by
  obtain ⟨m, rfl⟩ := lev hm
  have e1 := ok_field_number (m := m) t S (by omega) ht nd hk
  have e4 := glb_VM
  have e5 := fld_BS
  rw [tpl_e] at e1
  rw [u_with_most, tpl_e]
  by_cases h1 : 1 ≤ x
  · have h2 : ¬ x ≤ 40 := fun h2 => h ⟨h1, h2⟩
    clear h
    walk_at "ev"
    rw [raiO_ok (by simp)]
    rfl
  · clear h
    walk_at "ev"
    rw [raiO_ok (by simp)]
    rfl
theorem no_with_most_f {m : Nat} (t : Tpl) (S : Sto) (hm : 3 ≤ m) (ht : t.fs.length ≤ 24) {n : Tx} (hn : n ∉ t.fs.map Fld.nm) (x : Int) : callF G tab m "with_most" [t.e, .str n, .int x] S = .exc "BadStep" [("word", .str sF)] S := by
  obtain ⟨m, rfl⟩ := lev hm
  have e1 := no_field_number (m := m) t S (by omega) ht hn
  rw [tpl_e] at e1
  rw [u_with_most, tpl_e]
  walk_at "ev"
theorem ok_most_at {m : Nat} (t : Tpl) (ht : t.ok) (S : Sto) (hm : t.pt.dp + 6 ≤ m) {k : Nat} (hk : k < t.fs.length) (n : Int) : callF G tab m "most_at" [t.e, .int k, .int n] S = .ok (eN (mostO t k n)) S := by
  obtain ⟨m, rfl⟩ := lev (a := 5) (m := m) (by omega)
  have e1 : ∀ x : Int, callF G tab m "with_length" [t.e, .int k, .int x] S = .ok (t.wm k x).e S := fun x => ok_with_length (m := m) t S (by omega) ht.nf hk x
  have e2 : ∀ x : Int, callF G tab m "longest" [(t.wm k x).e] S = .ok (.int (t.L k x)) S := fun x => ok_longest (t.wm k x) S (by show t.pt.dp + 5 ≤ m; omega) (by rw [wm_len t hk]; exact ht.p) ht.nl
  have e4 := glb_VM
  rw [u_most_at]
  walk_at "ev"
  rw [rngL, comp1_if (e := fun (j : Nat) => .int (1 + j)) (g := fun (j : Nat) => .int (1 + j)) (p := fun (j : Nat) => decide (t.L k (1 + j) ≤ n))]
  · show leave Md.raw S (sqB _ _ (sSet _ _ (kLstR (.ok ((mostL t k n).map _) S)))) = _
    rcases List.eq_nil_or_concat (mostL t k n) with h | ⟨ys, y, h⟩
    · rw [h, show mostO t k n = none from by unfold mostO; rw [h]; rfl]
      walk_at "ev"
      rfl
    · rw [List.concat_eq_append] at h
      have hp : (0 : Int) < ((ys ++ [y]).length : Nat) := by simp
      have hg : ((ys ++ [y]).map fun (j : Nat) => D.int (1 + j)).getLast? = some (.int (1 + y)) := by simp
      rw [h, show mostO t k n = some y from by unfold mostO; rw [h]; simp]
      walk_at "ev"
      rfl
  · intro j hj
    walk_at "ev"
  · intro j hj _
    walk_at "ev"
  · simp
theorem ok_most_for {m : Nat} (t : Tpl) (ht : t.ok) (S : Sto) (hm : t.pt.dp + 7 ≤ m) {k : Nat} (hk : k < t.fs.length) (n : Int) : callF G tab m "most_for" [t.e, .str (t.nm k), .int n] S = .ok (eN (mostO t k n)) S := by
  obtain ⟨m, rfl⟩ := lev (a := 6) (m := m) (by omega)
  have e1 := ok_field_number (m := m) t S (by omega) ht.nf ht.nd hk
  have e2 := ok_most_at (m := m) t ht S (by omega) hk n
  rw [u_most_for]
  walk_at "ev"
theorem no_most_for {m : Nat} (t : Tpl) (ht : t.ok) (S : Sto) (hm : 3 ≤ m) {x : Tx} (hx : x ∉ t.fs.map Fld.nm) (n : Int) : callF G tab m "most_for" [t.e, .str x, .int n] S = .exc "BadStep" [("word", .str sF)] S := by
  obtain ⟨m, rfl⟩ := lev (a := 2) (m := m) (by omega)
  have e1 := no_field_number (m := m) t S (by omega) ht.nf hx
  rw [u_most_for]
  walk_at "ev"
def roomB (t : Tpl) (n : Int) (k : Nat) : Bool := match mostO t k n with
  | some j => decide (t.mo k < 1 + j)
  | none => false
theorem ok_has_room {m : Nat} (t : Tpl) (ht : t.ok) (S : Sto) (hm : t.pt.dp + 7 ≤ m) {k : Nat} (hk : k < t.fs.length) (n : Int) : callF G tab m "has_room" [t.e, .int k, .int n] S = .ok (.bl (roomB t n k)) S := by
  obtain ⟨m, rfl⟩ := lev (a := 6) (m := m) (by omega)
  have e2 := ok_most_at (m := m) t ht S (by omega) hk n
  have e3 := Tpl.at hk
  rw [tpl_e] at e2
  rw [u_has_room, tpl_e]
  unfold roomB
  cases h : mostO t k n with
  | none =>
    rw [h] at e2
    rw [eN] at e2
    walk_at "ev"
  | some j =>
    rw [h] at e2
    rw [eN] at e2
    walk_at "ev"
theorem enu_eq : ∀ (xs : List D) (k : Nat), enuL k xs = (List.range' k xs.length).zipWith (fun i x => .tup [.int i, x]) xs
  | [], _ => rfl
  | x :: xs, k => by rw [enuL, enu_eq xs (k + 1)]; rfl
theorem enu_map {α : Type} (f : α → D) : ∀ (xs : List α) (k : Nat), enuL k (xs.map f) = (xs.zipIdx k).map fun p => .tup [.int p.2, f p.1]
  | [], _ => rfl
  | x :: xs, k => by rw [List.map_cons, enuL, enu_map f xs (k + 1), List.zipIdx_cons, List.map_cons]
theorem srt_strs (xs : List Tx) : srtR (.lst (xs.map D.str)) = some (.lst (srtD (xs.map D.str))) :=
  srtR_ok (purs_strs xs) (alikeB_map (fun _ _ => rfl) xs) (by
    unfold tupsB
    rw [Bool.or_eq_true]
    right
    rw [List.all_eq_true]
    intro d hd
    obtain ⟨p, _, rfl⟩ := List.mem_map.mp hd
    rfl) (Nat.le_trans (deps_map (n := 0) (fun _ => by simp [D.dep]) xs) (by decide))
def roomL (t : Tpl) (n : Int) : List Tx := (((t.fs.map Fld.nm).zipIdx).filter fun p => roomB t n p.2).map (·.1)
theorem ok_room_for {m : Nat} (t : Tpl) (ht : t.ok) (S : Sto) (hm : t.pt.dp + 8 ≤ m) (n : Int) : callF G tab m "room_for" [t.e, .int n] S = .ok (.tup (srtD ((roomL t n).map D.str))) S := by
  obtain ⟨m, rfl⟩ := lev (a := 7) (m := m) (by omega)
  have e1 := ok_field_names (m := m) t S (by omega) ht.nf
  rw [u_room_for]
  walk_at "ev"
  rw [enu_map, comp1_if (e := fun p : Tx × Nat => .tup [.int p.2, .str p.1]) (g := fun p => .str p.1) (p := fun p => roomB t n p.2)]
  · have h1 := srt_strs (roomL t n)
    have h2 : (List.filter (fun p : Tx × Nat => roomB t n p.2) ((t.fs.map Fld.nm).zipIdx)).map (fun p => D.str p.1) = (roomL t n).map D.str := by rw [roomL, List.map_map]; rfl
    rw [h2]
    walk_at "ev"
  · intro p hp
    have hk : p.2 < t.fs.length := by
      have := List.mem_zipIdx hp
      simpa using this.2.1
    have e2 := ok_has_room (m := m) t ht S (by omega) hk n
    walk_at "ev"
  · intro p hp _
    walk_at "ev"
  · have := ht.nf; simp; omega
abbrev sMost : Tx := [109, 111, 115, 116]
def eV (t : Tpl) (n : Int) : D := if n < (t.pt.best t.mo).1 then .tup [.str [98, 114, 111, 107, 101, 110], .tup (srtD (((t.pt.best t.mo).2.map (recP t)).map eP))] else .tup [.str [107, 101, 112, 116]]
theorem ok_verdict_of {m : Nat} (t : Tpl) (ht : t.ok) (S : Sto) (hm : t.pt.dp + 7 ≤ m) (n : Int) : callF G tab m "verdict_of" [t.e, .tup [.str sMost, .int n]] S = .ok (eV t n) S := by
  obtain ⟨m, rfl⟩ := lev (a := 6) (m := m) (by omega)
  obtain ⟨m, rfl⟩ := lev (a := 5) (m := m) (by omega)
  have e1 := ok_longest (m := m) t S (by omega) ht.p ht.nl
  have e2 := ok_longest_record (m := m) t ht S (by omega)
  have e3 := glb_K
  have e4 := glb_B
  have e5 : callF G tab (m + 1) "breach_of" [t.e, .tup [.str sMost, .int n]] S = .ok (if n < (t.pt.best t.mo).1 then .tup (srtD (((t.pt.best t.mo).2.map (recP t)).map eP)) else .non) S := by
    rw [u_breach_of]
    by_cases h : n < (t.pt.best t.mo).1
    · walk_at "ev"
    · walk_at "ev"
  rw [u_verdict_of]
  unfold eV
  by_cases h : n < (t.pt.best t.mo).1
  · rw [if_pos h] at e5 ⊢
    walk_at "ev"
  · rw [if_neg h] at e5 ⊢
    walk_at "ev"
end K87
end Ev
/-! P87d: what the law's own defs compute: fields, given, put. -/
namespace Ev
namespace K87
open PySem L2
local macro_rules | `(tactic| walk_at "ev") => `(tactic| simp -implicitDefEqProofs (disch := first | assumption | omega | exact Nat.zero_le _ | (simp only [List.length_nil, List.length_cons, List.length_append, List.length_map, List.length_replicate, List.length_reverse, List.length_range]; omega)) only [varO_s, consO_s, setL_0, setL_s, asg_one, asg_tup, asgs_nil, asgsK_s, asgs_cons, setK_s, setAll_nil, setAll_cons, wipeN_0, wipeN_s, wipe_nil, wipe_cons, mkTup_ok, mkLst_ok, mkDic_ok, mkLive_l, negD_i, notD_b, revD_l, kwA_s, kwD_s, addA_ok, gixO_s, asI_i, rng1D_ok, rng2D_ok, putO_s, raiO_ok, nxO_s, ifE_t, ifE_f, ifS_t, ifS_f, andE_t, andE_f, orE_t, orE_f, kTup_k, kTup_x, kLst_k, kLst_x, kLive_k, kLive_x, kDic_k, kDic_x, kBin2_k, kBin2_x, kBin1_k, kBin1_x, kNeg_k, kNeg_x, kNot_k, kNot_x, kCmp2_k, kCmp2_x, kCmp1_k, kCmp1_x, chnO_t, chnO_f, kChn2_k, kChn2_x, kChn1_k, kChn1_x, kIf_k, kIf_x, kAnd_k, kAnd_x, kOr_k, kOr_x, kIdx2_k, kIdx2_x, kIdx1_k, kIdx1_x, kSlc3_k, kSlc3_x, kSlc2_k, kSlc2_x, kSlc1_k, kSlc1_x, kRev_k, kRev_x, kCal_k, kCal_x, kKw_k, kKw_x, kIsi_k, kIsi_x, kBlt_k, kBlt_x, kMth2_k, kMth2_x, mthG_t, kMth1_k, kMth1_x, kGix_k, kGix_x, kEs2_k, kEs2_x, kEs1_k, kEs1_x, kAsI_k, kAsI_x, kSeq_k, kSeq_x, kRng1_k, kRng1_x, kRng2b_k, kRng2b_x, kRng2a_k, kRng2a_x, kEnu2_k, kEnu2_x, kEnu1_k, kEnu1_x, kZip4_k, kZip4_x, kZip3_k, kZip3_x, kZip2_k, kZip2_x, kZip1_k, kZip1_x, kRvs2_k, kRvs2_x, kRvs1_k, kRvs1_x, addK_k, ifC_t, ifC_f, ifCK_k, turn0_s, turn1_s, turnS_s, kLstR_k, kComp0_k, kComp0_x, kComp1_k, kComp1_x, sExpr_k, sExpr_x, sSet_k, sSet_x, sPar_k, sPar_x, sPut3_k, sPut3_x, sPut2_k, sPut2_x, sPut1_k, sPut1_x, sIf_k, sIf_x, sFor_k, sFor_x, sRet_k, sRet_x, sRai_k, sRai_x, sqB_nx, sqB_rt, sqB_bk, sqB_ct, sqB_x, tryK_nx, tryK_rt, s_try, e_var, e_con, e_glb, e_tup, e_lst, e_dsp, e_live, e_bin, e_neg, e_nt, e_cmp, e_chn, e_and, e_or, e_ite, e_idx, e_slc, e_rev, e_cal, e_calk, e_isi, e_blt, e_mth, e_comp0, e_comp1, e_gix, es_nil, es_cons, ep_no, ep_so, ea_1, ea_2, eo_1, eo_2, ei_seq, ei_rng1, ei_rng2, ei_enu, ei_zip, ei_rvs, s_expr, s_set, s_par, s_put, s_ifs, s_whl, s_for, s_ret, s_retn, s_brk, s_cnt, s_pas, s_rai, b_nil, b_cons, cx_cal, cx_glb, cx_gdc, cx_kws, cx_fld, cx_sub, cx_fuel, leave_rt, leave_nx, leave_exc, drf_tup, drf_lst, drf_ro, drfq_str, drfq_int, drfq_bl, drfq_non, drf_dic, drf_loc, drO_l, bin_add_i, bin_add_s, bin_add_t, bin_add_l, addO_ok, bin_sub_i, bin_mul_i, bin_mul_s, bin_fdiv_i, bin_mod_i, idx_r, idxR_t, idxR_l, idxR_r, idxR_d, at_n, at_0, at_1, at_2, at_3, at_4, at_5, at_m1, len_l, len_t, len_r, len_s, len_loc, lenR_l, seqD_l, seqD_t, seqD_r, seqD_loc, seqR_l, tup_q, lst_q, srcD_l, srcD_t, srcD_r, srcD_s, srcQ_l, srcQ_t, srcD_loc, srcO_l, cmp_eq, cmp_ne, cmp_isN, cmp_isnN, isNon_n, isNon_i, isNon_s, isNon_t, isNon_l, isNon_o, cmp_in, cmp_nin, cmp_lt_i, cmp_le_i, cmp_gt_i, cmp_ge_i, cmp_le_s, cmp_lt_s, eq_i, eq_s, eq_b, eq_si, eq_is, tru_b, tru_i, tru_n, isi_t_tuple, isi_t_list, isi_t_str, isi_t_int, isi_t_bool, isi_l_tuple, isi_l_list, isi_l_str, isi_l_int, isi_l_bool, isi_s_tuple, isi_s_list, isi_s_str, isi_s_int, isi_s_bool, isi_i_tuple, isi_i_list, isi_i_str, isi_i_int, isi_i_bool, isi_b_tuple, isi_b_list, isi_b_str, isi_b_int, isi_b_bool, isiq_n, isL_l, ty_append, ty_extend, ty_pop, ty_index, ty_join, m_append, appO_ok, m_extend, extO_ok, m_pop, popO_ok, st_get0, st_get1, st_get2, st_get3, st_set0, st_set1, st_set2, st_app, st_len, fin_f, fin_tk, fin_tx, Res.nox_ok, Res.nox_exc, ofO_some, ofO_none, reo, List.getElem?_cons_zero, List.getElem?_cons_succ, List.length_cons, List.length_nil, List.cons_append, List.nil_append, Option.map_some, Option.map_none, List.getLast?_cons_cons, List.getLast?_singleton, decide_true, decide_false, Bool.not_true, Bool.not_false, Nat.zero_add, Nat.reduceAdd, Nat.reduceLeDiff, Nat.reduceLT, Int.reduceNeg, List.length_map, if_true, if_false, goes_nx, goes_ct, ends_nx, ends_ct, ends_rt, reduceCtorEq, false_and, and_false, and_true, true_and, Bool.and_true, Bool.and_false, eqS_nn, eqS_nc, eqS_cn, eqS_cc, eqS_self, Nat.reduceBEq, Bool.true_and, Bool.false_and, beq_self_eq_true, slc_r, slcR_t, slcR_l, slcR_r, slcR_s, cut_hi, cut_lo, toNat_s, srt_r, in_tup, m_index, ixO_s, Int.reduceToNat, Int.toNat_natCast, Int.reduceSub, Int.reduceAdd, List.take_succ_cons, List.take_zero, List.drop_succ_cons, List.drop_zero, Int.reduceLT, Int.reduceLE, cast_0, cast_1, Int.cast_ofNat_Int, bin_add_loc, addR_l, eq_self, isNon_b, isNon_r, isNon_d, put_loc, putR_0, putR_n, in_str1, Int.reduceEq, List.set_cons_zero, List.set_cons_succ, int1_i, min2_i, max2_i, okP_ok, cut_m1, Nat.reduceSub, Nat.add_one_sub_one, evOn_s, gd_nil, gdS_nil, fld_e, row_e, eit_e, eO_none, eO_some, leave_rt, leave_nx, leave_exc, *])
theorem ok_fields {n : Nat} : ∀ (p : Part) {m : Nat} (S : Sto), p.dp + 1 ≤ m → p.ok n → p.flds.length ≤ 100 → callF G tab m "_law_fields" [p.e] S = .ok (.lst (p.flds.map eK)) S := by
  intro p
  induction p using Part.ind with
  | hf k a b =>
    intro m S hm _ _
    obtain ⟨m, rfl⟩ := lev (a := 0) (m := m) (by omega)
    rw [u__law_fields, fld_e]
    walk_at "ev"
    exact leave_bel0 rfl
  | hr a s l b ps ih =>
    intro m S hm hk hc
    rw [row_ok] at hk
    rw [Part.dp] at hm
    rw [Part.flds, fldss_eq] at hc ⊢
    obtain ⟨m, rfl⟩ := lev (a := 0) (m := m) (by omega)
    have h1 : ∀ p ∈ ps, ∀ S, callF G tab m "_law_fields" [p.e] S = .ok (.lst (p.flds.map eK)) S := fun p hp S => ih p hp S (by have := dp_le hp; omega) (hk.2.2.2.2.2.2 p hp) (by have := flds_le hp; omega)
    clear ih hk hm
    rw [u__law_fields, row_e]
    walk_at "ev"
    refine use_for (e := Part.e) (P := fun r => leave _ S (sqB _ _ r) = _) (fun pre ls S' => ∃ o2, ls = [some (D.tup [D.str sR, D.str a, D.str s, eO l, D.str b, D.tup (List.map Part.e ps)]), some (.loc S.length), o2] ∧ S' = S ++ [.lst ((pre.flatMap Part.flds).map eK)]) ⟨_, rfl, rfl⟩ ?_ ?_
    · rintro pre p post _ _ he ⟨o2, rfl, rfl⟩
      have h2 := h1 p (by rw [he]; simp)
      have h3 : (pre.flatMap Part.flds).length + p.flds.length ≤ 100 := by rw [he] at hc; simp at hc ⊢; omega
      walk_at "ev"
      exact ⟨_, rfl, by simp⟩
    · rintro _ _ ⟨o2, rfl, rfl⟩
      walk_at "ev"
      exact leave_loc (belsq_map fun _ _ => rfl) (Nat.le_refl _) (by simp)
  | he ps ih =>
    intro m S hm hk hc
    rw [eit_ok] at hk
    rw [Part.dp] at hm
    rw [Part.flds, fldss_eq] at hc ⊢
    obtain ⟨m, rfl⟩ := lev (a := 0) (m := m) (by omega)
    have h1 : ∀ p ∈ ps, ∀ S, callF G tab m "_law_fields" [p.e] S = .ok (.lst (p.flds.map eK)) S := fun p hp S => ih p hp S (by have := dp_le hp; omega) (hk.2.2 p hp) (by have := flds_le hp; omega)
    clear ih hk hm
    rw [u__law_fields, eit_e]
    walk_at "ev"
    refine use_for (e := Part.e) (P := fun r => leave _ S (sqB _ _ r) = _) (fun pre ls S' => ∃ o2, ls = [some (D.tup [D.str sE, D.tup (List.map Part.e ps)]), some (.loc S.length), o2] ∧ S' = S ++ [.lst ((pre.flatMap Part.flds).map eK)]) ⟨_, rfl, rfl⟩ ?_ ?_
    · rintro pre p post _ _ he ⟨o2, rfl, rfl⟩
      have h2 := h1 p (by rw [he]; simp)
      have h3 : (pre.flatMap Part.flds).length + p.flds.length ≤ 100 := by rw [he] at hc; simp at hc ⊢; omega
      walk_at "ev"
      exact ⟨_, rfl, by simp⟩
    · rintro _ _ ⟨o2, rfl, rfl⟩
      walk_at "ev"
      exact leave_loc (belsq_map fun _ _ => rfl) (Nat.le_refl _) (by simp)
/-- the values as they stand in the store or in a list -/
theorem drf_app {S : Sto} {d : D} {xs : List D} (h : drf S d = .lst xs) (T : Sto) : drf (S ++ T) d = .lst xs := by
  cases d <;> try exact h
  rename_i l
  rw [drf_loc] at h ⊢
  have hl : l < S.length := by
    apply Classical.byContradiction
    intro hn
    rw [List.getElem?_eq_none (by omega)] at h
    cases h
  rw [List.getElem?_append_left hl]; exact h
theorem isG_eq {vs : Vals} {k : Nat} (hk : k < vs.length) : (vs.map eO)[k]? = some (eO vs[k]) ∧ isG vs k = vs[k].isSome := by
  refine ⟨by rw [List.getElem?_map, List.getElem?_eq_getElem hk]; rfl, ?_⟩
  unfold isG
  rw [List.getElem?_eq_getElem hk]; rfl
theorem isNon_eO (o : Option Tx) : isNon (eO o) = !o.isSome := by cases o <;> rfl
theorem ok_given {n : Nat} {m : Nat} (p : Part) (S : Sto) (hm : p.dp + 2 ≤ m) (hp : p.ok n) (hl : p.flds.length ≤ 100) (vs : Vals) (hv : ∀ k ∈ p.flds, k < vs.length) (d : D) (hd : drf S d = .lst (vs.map eO)) : callF G tab m "_law_given" [p.e, d] S = .ok (.bl (p.given vs)) S := by
  obtain ⟨m, rfl⟩ := lev (a := 1) (m := m) (by omega)
  have h1 := ok_fields (m := m) p S (by omega) hp hl
  rw [u__law_given]
  walk_at "ev"
  rw [comp1_if (e := eK) (g := eK) (p := isG vs)]
  · walk_at "ev"
    congr 2
    unfold Part.given
    rw [Bool.eq_iff_iff, List.any_eq_true, decide_eq_true_eq]
    constructor
    · intro h
      have : p.flds.filter (isG vs) ≠ [] := by intro hc; rw [hc] at h; simp at h
      obtain ⟨k, hk⟩ := List.exists_mem_of_ne_nil _ this
      exact ⟨k, (List.mem_filter.mp hk).1, (List.mem_filter.mp hk).2⟩
    · rintro ⟨k, hk, hg⟩
      have := List.length_pos_of_mem (List.mem_filter.mpr ⟨hk, hg⟩)
      omega
  · intro k hk
    obtain ⟨e1, e2⟩ := isG_eq (hv k hk)
    have e3 := isNon_eO (vs[k]'(hv k hk))
    walk_at "ev"
    simp
  · intro k hk _
    walk_at "ev"
  · omega
theorem range_split {n k : Nat} {pre post : List Nat} (h : List.range n = pre ++ k :: post) : k = pre.length ∧ pre.length < n ∧ pre = List.range k := by
  have hl := congrArg List.length h
  simp at hl
  have e : (List.range n)[pre.length]? = some k := by rw [h]; simp
  rw [List.getElem?_range (by omega)] at e
  have e' : pre.length = k := by simpa using e
  refine ⟨e'.symm, by omega, ?_⟩
  have := congrArg (List.take pre.length) h
  rw [List.take_left, List.take_range] at this
  rw [← this, ← e']
  congr 1
  omega
theorem eO_l (l : Option Tx) (h : l.isSome = true) (s : Tx) : eO l = .str (l.getD s) := by cases l <;> first | rfl | cases h
theorem ok_put {n : Nat} : ∀ (p : Part) {m : Nat} (S : Sto) (vs : Vals) (d : D), p.dp + 3 ≤ m → p.ok n → p.flds.length ≤ 100 → p.size ≤ 1000 → (∀ k ∈ p.flds, k < vs.length) → drf S d = .lst (vs.map eO) → p.given vs = true → callF G tab m "_law_put" [p.e, d] S = .ok (.lst ((p.put vs).map ePc)) S := by
  intro p
  induction p using Part.ind with
  | hf k a b =>
    intro m S vs d hm hp _ _ hv hd hg
    obtain ⟨m, rfl⟩ := lev (a := 0) (m := m) (by omega)
    have hk := hv k (by simp [Part.flds])
    obtain ⟨e1, e2⟩ := isG_eq hk
    have hg' : isG vs k = true := by simpa [Part.given, Part.flds] using hg
    obtain ⟨x, hx⟩ : ∃ x, vs[k] = some x := Option.isSome_iff_exists.mp (by rw [← e2]; exact hg')
    rw [hx, eO_some] at e1
    clear e2 hg hg' hv hp
    rw [u__law_put, fld_e]
    walk_at "ev"
    rw [leave_bel0 rfl, Part.put, List.getElem?_eq_getElem hk, hx]
    rfl
  | hr a s l b ps ih =>
    intro m S vs d hm hp hl hz hv hd hg
    rw [row_ok] at hp
    rw [Part.dp] at hm
    rw [Part.flds, fldss_eq] at hl hv
    have hz' := hz
    rw [Part.size] at hz
    obtain ⟨m, rfl⟩ := lev (a := 0) (m := m) (by omega)
    have hG : ∀ p ∈ ps, ∀ S, drf S d = .lst (vs.map eO) → callF G tab m "_law_given" [p.e, d] S = .ok (.bl (p.given vs)) S := fun p hp' S hd => ok_given p S (by have := dp_le hp'; omega) (hp.2.2.2.2.2.2 p hp') (by have := flds_le hp'; omega) vs (fun k hk => hv k (List.mem_flatMap.mpr ⟨p, hp', hk⟩)) d hd
    have hP : ∀ p ∈ ps.filter (Part.given vs), ∀ S, drf S d = .lst (vs.map eO) → callF G tab m "_law_put" [p.e, d] S = .ok (.lst ((p.put vs).map ePc)) S := fun p hp' S hd => by
      have hq := (List.mem_filter.mp hp').1
      exact ih p hq S vs d (by have := dp_le hq; omega) (hp.2.2.2.2.2.2 p hq) (by have := flds_le hq; omega) (by have := size_le hq; omega) (fun k hk => hv k (List.mem_flatMap.mpr ⟨p, hq, hk⟩)) hd (List.mem_filter.mp hp').2
    have hs : ps.length ≤ 60 := hp.2.2.2.2.2.1
    have hput := put_len vs (.row a s l b ps)
    rw [Part.put, puts_eq] at hput ⊢
    clear ih hg hv hl hm hp hz
    rw [u__law_put, row_e]
    walk_at "ev"
    rw [comp1_if (e := Part.e) (g := Part.e) (p := Part.given vs)]
    · obtain ⟨inner, hin⟩ : ∃ x, ps.filter (Part.given vs) = x := ⟨_, rfl⟩
      have hin' : inner.length ≤ 60 := by rw [← hin]; exact Nat.le_trans (List.length_filter_le _ _) hs
      rw [hin] at hP hput ⊢
      clear hin hG
      walk_at "ev"
      rw [rngL]
      refine use_for (e := fun (k : Nat) => .int (0 + k)) (P := fun r => leave _ S (sqB _ _ r) = _) (fun pre ls S' => ∃ o4, ls = [some (D.tup [D.str sR, D.str a, D.str s, eO l, D.str b, D.tup (List.map Part.e ps)]), some d, some (D.lst (List.map Part.e inner)), some (D.loc (List.length S)), o4, none] ∧ S' = S ++ [.lst (((none, a) :: weave s l inner.length 0 ((inner.take pre.length).map (Part.put vs))).map ePc)]) ⟨_, rfl, rfl⟩ ?_ ?_
      · rintro pre k post _ _ he ⟨o4, rfl, rfl⟩
        obtain ⟨hk, hkl, hpre⟩ := range_split he
        subst hk
        have hk := hkl
        have hi : (inner.map Part.e)[pre.length]? = some (inner[pre.length]).e := by rw [List.getElem?_map, List.getElem?_eq_getElem hk]; rfl
        have hi' : atI (inner.map Part.e) (0 + (pre.length : Int)) = some (inner[pre.length]).e := by rw [Int.zero_add, at_n]; exact hi
        have hlen2 : (weave s l inner.length 0 ((inner.take pre.length).map (Part.put vs))).length + (if 0 < pre.length then 1 else 0) + ((inner[pre.length]).put vs).length ≤ 10000 := by
          have h1 := weave_take s l inner.length (Part.put vs) inner hk
          simp only [List.length_cons, List.length_append, List.length_map, List.length_nil] at hput
          omega
        have hx : ∀ T, callF G tab m "_law_put" [(inner[pre.length]).e, d] (S ++ T) = Res.ok (D.lst (List.map ePc (Part.put vs inner[pre.length]))) (S ++ T) := fun T => hP _ (List.getElem_mem hk) (S ++ T) (drf_app hd T)
        clear hP hput hi he hpre
        by_cases h0 : 0 < pre.length
        · rw [if_pos h0] at hlen2
          have c0 : (0 : Int) < 0 + (pre.length : Int) := by omega
          by_cases hn : pre.length + 1 < inner.length
          · have c1 : 0 + (pre.length : Int) < (inner.length : Int) - 1 := by omega
            walk_at "ev"
            exact ⟨_, rfl, by rw [List.length_append, List.length_singleton, weave_step _ _ _ _ _ hk, if_pos h0, if_pos hn]; simp [eZ]⟩
          · have c1 : ¬ 0 + (pre.length : Int) < (inner.length : Int) - 1 := by omega
            cases l with
            | none =>
              walk_at "ev"
              exact ⟨_, rfl, by rw [List.length_append, List.length_singleton, weave_step _ _ _ _ _ hk, if_pos h0, if_neg hn]; simp [eZ]⟩
            | some l =>
              walk_at "ev"
              exact ⟨_, rfl, by rw [List.length_append, List.length_singleton, weave_step _ _ _ _ _ hk, if_pos h0, if_neg hn]; simp [eZ]⟩
        · rw [if_neg h0] at hlen2
          have c0 : ¬ (0 : Int) < 0 + (pre.length : Int) := by omega
          walk_at "ev"
          exact ⟨_, rfl, by rw [List.length_append, List.length_singleton, weave_step _ _ _ _ _ hk, if_neg h0]; simp⟩
      · rintro _ _ ⟨o4, rfl, rfl⟩
        rw [List.length_range, List.take_length]
        have hl3 : (weave s l inner.length 0 (inner.map (Part.put vs))).length ≤ 10000 := by
          simp only [List.length_cons, List.length_append, List.length_map, List.length_nil] at hput
          omega
        clear hput hP
        walk_at "ev"
        refine (leave_bel (d := .lst _) ?_).trans ?_
        · exact bels_all.mpr fun d' hd' => by
            rcases List.mem_append.mp hd' with h | h
            · obtain ⟨q, _, rfl⟩ := List.mem_map.mp h; rfl
            · simp at h; subst h; rfl
        · simp [eZ]
    · intro p hp'
      have := hG p hp' S hd
      walk_at "ev"
    · intro p hp' _
      walk_at "ev"
    · omega
  | he ps ih =>
    intro m S vs d hm hp hl hz hv hd hg
    rw [eit_ok] at hp
    rw [Part.dp] at hm
    rw [Part.flds, fldss_eq] at hl hv
    rw [Part.size] at hz
    obtain ⟨m, rfl⟩ := lev (a := 0) (m := m) (by omega)
    have hG : ∀ p ∈ ps, ∀ S, drf S d = .lst (vs.map eO) → callF G tab m "_law_given" [p.e, d] S = .ok (.bl (p.given vs)) S := fun p hp' S hd => ok_given p S (by have := dp_le hp'; omega) (hp.2.2 p hp') (by have := flds_le hp'; omega) vs (fun k hk => hv k (List.mem_flatMap.mpr ⟨p, hp', hk⟩)) d hd
    have hP : ∀ p ∈ ps.filter (Part.given vs), ∀ S, drf S d = .lst (vs.map eO) → callF G tab m "_law_put" [p.e, d] S = .ok (.lst ((p.put vs).map ePc)) S := fun p hp' S hd => by
      have hq := (List.mem_filter.mp hp').1
      exact ih p hq S vs d (by have := dp_le hq; omega) (hp.2.2 p hq) (by have := flds_le hq; omega) (by have := size_le hq; omega) (fun k hk => hv k (List.mem_flatMap.mpr ⟨p, hq, hk⟩)) hd (List.mem_filter.mp hp').2
    have hs : ps.length ≤ 60 := hp.2.1
    have hne : ps.filter (Part.given vs) ≠ [] := by
      intro hc
      unfold Part.given at hg
      rw [Part.flds, fldss_eq, List.any_eq_true] at hg
      obtain ⟨k, hk, hgk⟩ := hg
      obtain ⟨p, hp', hkp⟩ := List.mem_flatMap.mp hk
      have : p ∈ ps.filter (Part.given vs) := List.mem_filter.mpr ⟨hp', List.any_eq_true.mpr ⟨k, hkp, hgk⟩⟩
      rw [hc] at this; cases this
    obtain ⟨q, qs, hin⟩ := List.exists_cons_of_ne_nil hne
    have hq := hP q (by rw [hin]; simp) S hd
    rw [Part.put, puts_eq, hin]
    clear ih hg hv hl hm hp hz hP hne
    rw [u__law_put, eit_e]
    walk_at "ev"
    rw [comp1_if (e := Part.e) (g := Part.e) (p := Part.given vs)]
    · rw [hin, List.map_cons]
      clear hG hin
      walk_at "ev"
      refine (leave_bel0 (d := .lst (List.map ePc (Part.put vs q))) (belsq_map fun _ _ => rfl)).trans ?_
      simp
    · intro p hp'
      have := hG p hp' S hd
      walk_at "ev"
    · intro p hp' _
      walk_at "ev"
    · omega
end K87
end Ev
/-! P87e: what the law's own defs compute: rows, great, longest. -/
namespace Ev
namespace K87
open PySem L2
local macro_rules | `(tactic| walk_at "ev") => `(tactic| simp -implicitDefEqProofs (disch := first | assumption | omega | exact Nat.zero_le _ | (simp only [List.length_nil, List.length_cons, List.length_append, List.length_map, List.length_replicate, List.length_reverse, List.length_range]; omega)) only [varO_s, consO_s, setL_0, setL_s, asg_one, asg_tup, asgs_nil, asgsK_s, asgs_cons, setK_s, setAll_nil, setAll_cons, wipeN_0, wipeN_s, wipe_nil, wipe_cons, mkTup_ok, mkLst_ok, mkDic_ok, mkLive_l, negD_i, notD_b, revD_l, kwA_s, kwD_s, addA_ok, gixO_s, asI_i, rng1D_ok, rng2D_ok, putO_s, raiO_ok, nxO_s, ifE_t, ifE_f, ifS_t, ifS_f, andE_t, andE_f, orE_t, orE_f, kTup_k, kTup_x, kLst_k, kLst_x, kLive_k, kLive_x, kDic_k, kDic_x, kBin2_k, kBin2_x, kBin1_k, kBin1_x, kNeg_k, kNeg_x, kNot_k, kNot_x, kCmp2_k, kCmp2_x, kCmp1_k, kCmp1_x, chnO_t, chnO_f, kChn2_k, kChn2_x, kChn1_k, kChn1_x, kIf_k, kIf_x, kAnd_k, kAnd_x, kOr_k, kOr_x, kIdx2_k, kIdx2_x, kIdx1_k, kIdx1_x, kSlc3_k, kSlc3_x, kSlc2_k, kSlc2_x, kSlc1_k, kSlc1_x, kRev_k, kRev_x, kCal_k, kCal_x, kKw_k, kKw_x, kIsi_k, kIsi_x, kBlt_k, kBlt_x, kMth2_k, kMth2_x, mthG_t, kMth1_k, kMth1_x, kGix_k, kGix_x, kEs2_k, kEs2_x, kEs1_k, kEs1_x, kAsI_k, kAsI_x, kSeq_k, kSeq_x, kRng1_k, kRng1_x, kRng2b_k, kRng2b_x, kRng2a_k, kRng2a_x, kEnu2_k, kEnu2_x, kEnu1_k, kEnu1_x, kZip4_k, kZip4_x, kZip3_k, kZip3_x, kZip2_k, kZip2_x, kZip1_k, kZip1_x, kRvs2_k, kRvs2_x, kRvs1_k, kRvs1_x, addK_k, ifC_t, ifC_f, ifCK_k, turn0_s, turn1_s, turnS_s, kLstR_k, kComp0_k, kComp0_x, kComp1_k, kComp1_x, sExpr_k, sExpr_x, sSet_k, sSet_x, sPar_k, sPar_x, sPut3_k, sPut3_x, sPut2_k, sPut2_x, sPut1_k, sPut1_x, sIf_k, sIf_x, sFor_k, sFor_x, sRet_k, sRet_x, sRai_k, sRai_x, sqB_nx, sqB_rt, sqB_bk, sqB_ct, sqB_x, tryK_nx, tryK_rt, s_try, e_var, e_con, e_glb, e_tup, e_lst, e_dsp, e_live, e_bin, e_neg, e_nt, e_cmp, e_chn, e_and, e_or, e_ite, e_idx, e_slc, e_rev, e_cal, e_calk, e_isi, e_blt, e_mth, e_comp0, e_comp1, e_gix, es_nil, es_cons, ep_no, ep_so, ea_1, ea_2, eo_1, eo_2, ei_seq, ei_rng1, ei_rng2, ei_enu, ei_zip, ei_rvs, s_expr, s_set, s_par, s_put, s_ifs, s_whl, s_for, s_ret, s_retn, s_brk, s_cnt, s_pas, s_rai, b_nil, b_cons, cx_cal, cx_glb, cx_gdc, cx_kws, cx_fld, cx_sub, cx_fuel, leave_rt, leave_nx, leave_exc, drf_tup, drf_lst, drf_ro, drfq_str, drfq_int, drfq_bl, drfq_non, drf_dic, drf_loc, drO_l, bin_add_i, bin_add_s, bin_add_t, bin_add_l, addO_ok, bin_sub_i, bin_mul_i, bin_mul_s, bin_fdiv_i, bin_mod_i, idx_r, idxR_t, idxR_l, idxR_r, idxR_d, at_n, at_0, at_1, at_2, at_3, at_4, at_5, at_m1, len_l, len_t, len_r, len_s, len_loc, lenR_l, seqD_l, seqD_t, seqD_r, seqD_loc, seqR_l, tup_q, lst_q, srcD_l, srcD_t, srcD_r, srcD_s, srcQ_l, srcQ_t, srcD_loc, srcO_l, cmp_eq, cmp_ne, cmp_isN, cmp_isnN, isNon_n, isNon_i, isNon_s, isNon_t, isNon_l, isNon_o, cmp_in, cmp_nin, cmp_lt_i, cmp_le_i, cmp_gt_i, cmp_ge_i, cmp_le_s, cmp_lt_s, eq_i, eq_s, eq_b, eq_si, eq_is, tru_b, tru_i, tru_n, isi_t_tuple, isi_t_list, isi_t_str, isi_t_int, isi_t_bool, isi_l_tuple, isi_l_list, isi_l_str, isi_l_int, isi_l_bool, isi_s_tuple, isi_s_list, isi_s_str, isi_s_int, isi_s_bool, isi_i_tuple, isi_i_list, isi_i_str, isi_i_int, isi_i_bool, isi_b_tuple, isi_b_list, isi_b_str, isi_b_int, isi_b_bool, isiq_n, isL_l, ty_append, ty_extend, ty_pop, ty_index, ty_join, m_append, appO_ok, m_extend, extO_ok, m_pop, popO_ok, st_get0, st_get1, st_get2, st_get3, st_set0, st_set1, st_set2, st_app, st_len, fin_f, fin_tk, fin_tx, Res.nox_ok, Res.nox_exc, ofO_some, ofO_none, reo, List.getElem?_cons_zero, List.getElem?_cons_succ, List.length_cons, List.length_nil, List.cons_append, List.nil_append, Option.map_some, Option.map_none, List.getLast?_cons_cons, List.getLast?_singleton, decide_true, decide_false, Bool.not_true, Bool.not_false, Nat.zero_add, Nat.reduceAdd, Nat.reduceLeDiff, Nat.reduceLT, Int.reduceNeg, List.length_map, if_true, if_false, goes_nx, goes_ct, ends_nx, ends_ct, ends_rt, reduceCtorEq, false_and, and_false, and_true, true_and, Bool.and_true, Bool.and_false, eqS_nn, eqS_nc, eqS_cn, eqS_cc, eqS_self, Nat.reduceBEq, Bool.true_and, Bool.false_and, beq_self_eq_true, slc_r, slcR_t, slcR_l, slcR_r, slcR_s, cut_hi, cut_lo, toNat_s, srt_r, in_tup, m_index, ixO_s, Int.reduceToNat, Int.toNat_natCast, Int.reduceSub, Int.reduceAdd, List.take_succ_cons, List.take_zero, List.drop_succ_cons, List.drop_zero, Int.reduceLT, Int.reduceLE, cast_0, cast_1, Int.cast_ofNat_Int, bin_add_loc, addR_l, eq_self, isNon_b, isNon_r, isNon_d, put_loc, putR_0, putR_n, in_str1, Int.reduceEq, List.set_cons_zero, List.set_cons_succ, int1_i, min2_i, max2_i, okP_ok, cut_m1, Nat.reduceSub, Nat.add_one_sub_one, evOn_s, gd_nil, gdS_nil, fld_e, row_e, eit_e, eO_none, eO_some, leave_rt, leave_nx, leave_exc, *])
abbrev eS (xs : List Nat) : D := .lst (xs.map eK)
theorem filterMap_fst : ∀ xs : List Pc, ((xs.filter fun p => p.1.isSome).map fun p => D.int (eZ p.1)) = (xs.filterMap (·.1)).map eK
  | [] => rfl
  | (none, t) :: xs => by
    have := filterMap_fst xs
    simpa using this
  | (some k, t) :: xs => by
    have := filterMap_fst xs
    simp only [List.filter_cons, Option.isSome_some, if_true, List.map_cons, List.filterMap_cons]
    rw [this]; rfl
theorem ok_rows {m : Nat} (t : Tpl) (ht : t.ok) (S : Sto) (hm : t.pt.dp + 4 ≤ m) (h6 : t.fs.length ≤ 6) (hfl : ∀ k, k < t.fs.length → k ∈ t.pt.flds) (hfl' : ∀ k ∈ t.pt.flds, k < t.fs.length) : callF G tab m "_law_rows" [t.e] S = .ok (.lst ((rowsOf t.pt t.fs.length).map eB)) S := by
  obtain ⟨m, rfl⟩ := lev (a := 3) (m := m) (by omega)
  obtain ⟨N, hN⟩ : ∃ N, t.fs.length = N := ⟨_, rfl⟩
  have hp := ht.p
  rw [hN] at h6 hfl hfl' hp ⊢
  have hNl : ((t.fs.map Fld.e).length : Int) = N := by simp [hN]
  rw [u__law_rows, tpl_e]
  walk_at "ev"
  rw [rngL0]
  refine use_for (e := eK) (P := fun r => leave _ S (sqB _ _ r) = _) (fun pre ls S' => ∃ o1, ls = [some (D.tup [D.tup (List.map Fld.e t.fs), t.pt.e, D.str t.no]), o1, none, some (.loc S.length), some (.int N), some (.lst ((subs pre.length).map eS)), none, none, none] ∧ S' = S ++ [.lst []]) ⟨_, rfl, rfl⟩ ?_ ?_
  · rintro pre k post _ _ he ⟨o1, rfl, rfl⟩
    obtain ⟨hk, hkl, hpre⟩ := range_split he
    subst hk
    have hb : (subs pre.length).length ≤ 64 := by
      rw [subs_length]
      exact Nat.le_trans (Nat.pow_le_pow_right (by decide) (show pre.length ≤ 6 by omega)) (by decide)
    have hl6 : pre.length ≤ 6 := by omega
    clear hpre he
    walk_at "ev"
    rw [comp0_one (e := eS) (g := fun xs => eS (xs ++ [pre.length]))]
    · walk_at "ev"
      refine ⟨some (.int pre.length), ?_⟩
      rw [List.length_append, List.length_singleton, subs, List.map_append, List.map_map]
      rfl
    · intro xs hxs
      have := subs_len hxs
      walk_at "ev"
      simp
    · omega
  · rintro _ _ ⟨o1, rfl, rfl⟩
    rw [List.length_range]
    walk_at "ev"
    rw [← List.map_drop]
    refine use_for (e := eS) (P := fun r => leave _ S (sqB _ _ r) = _) (fun pre ls S' => ∃ o2 o6, ls = [some (D.tup [D.tup (List.map Fld.e t.fs), t.pt.e, D.str t.no]), o1, o2, some (.loc S.length), some (.int N), some (.lst ((subs N).map eS)), o6, none, none] ∧ S' = S ++ [.lst ((pre.map (rowOf t.pt N)).map eB)]) ⟨_, _, rfl, rfl⟩ ?_ ?_
    · rintro pre xs post _ _ he ⟨o2, o6, rfl, rfl⟩
      have hmem : xs ∈ (subs N).drop 1 := by rw [he]; simp
      have hne := subs_tail hmem
      have hlt := subs_lt (List.mem_of_mem_drop hmem)
      have hpl : pre.length ≤ 64 := by
        have h1 := congrArg List.length he
        rw [List.length_drop, subs_length, List.length_append] at h1
        have : 2 ^ N ≤ 64 := Nat.le_trans (Nat.pow_le_pow_right (by decide) h6) (by decide)
        omega
      have hgv : t.pt.given (setV N xs) = true := by
        obtain ⟨k, r, hr⟩ := List.exists_cons_of_ne_nil hne
        have hk : k ∈ xs := by rw [hr]; simp
        unfold Part.given
        rw [List.any_eq_true]
        exact ⟨k, hfl k (hlt k hk), by rw [isG_setV]; exact decide_eq_true ⟨hlt k hk, hk⟩⟩
      have hcall : ∀ T, callF G tab m "_law_put" [t.pt.e, .lst ((setV N xs).map eO)] (S ++ T) = .ok (.lst ((t.pt.put (setV N xs)).map ePc)) (S ++ T) := fun T => ok_put t.pt (S ++ T) (setV N xs) _ (by omega) hp ht.nl ht.sz (fun k hk => by rw [setV_length]; exact hfl' k hk) rfl hgv
      have hshort := put_short (n := N) (vs := setV N xs) (fun k x hx => by
        by_cases hk : k < N
        · rw [setV_at hk] at hx
          by_cases hkx : k ∈ xs
          · rw [if_pos hkx] at hx; cases hx; simp
          · rw [if_neg hkx] at hx; cases hx
        · rw [List.getElem?_eq_none (by rw [setV_length]; omega)] at hx; cases hx) hp
      have hpu := put_len (setV N xs) t.pt
      have hsz := ht.sz
      clear he hgv hfl hfl' hne hlt
      walk_at "ev"
      rw [rngL0, comp0_one (e := eK) (g := fun k => eO (if k ∈ xs then some [] else none))]
      · rw [show (List.range N).map (fun k => eO (if k ∈ xs then some [] else none)) = (setV N xs).map eO from by rw [setV, List.map_map]; rfl]
        walk_at "ev"
        rw [comp0_one (e := ePc) (g := fun p => .int (lenP p))]
        · walk_at "ev"
          rw [sum_ints]
          walk_at "ev"
          rw [comp1_if (e := ePc) (g := fun p => .int (eZ p.1)) (p := fun p => p.1.isSome)]
          · rw [filterMap_fst]
            walk_at "ev"
            exact ⟨_, _, rfl, by simp [rowOf]⟩
          · intro pc hpc
            have h1 : decide (0 ≤ eZ pc.1) = pc.1.isSome := by
              rcases pc with ⟨_ | k, x⟩ <;> simp [eZ]
            walk_at "ev"
          · intro pc hpc _
            walk_at "ev"
          · omega
        · intro pc hpc
          have h1 := hshort pc hpc
          walk_at "ev"
          rfl
        · omega
      · intro k hk
        have h1 := in_ints (S ++ [Ob.lst ((pre.map (rowOf t.pt N)).map eB)]) k xs
        by_cases hkx : k ∈ xs
        · walk_at "ev"
        · walk_at "ev"
      · simp; omega
    · rintro _ _ ⟨o2, o6, rfl, rfl⟩
      walk_at "ev"
      exact leave_loc (belsq_map fun r _ => by simp only [eB, D.bel, bels, Bool.true_and, Bool.and_true]; exact belsq_map fun _ _ => rfl) (Nat.le_refl _) (by simp [rowsOf])
end K87
end Ev
/-! P87g: what the law's own defs compute: great, longest, most, changed. -/
namespace Ev
namespace K87
open PySem L2
local macro_rules | `(tactic| walk_at "ev") => `(tactic| simp -implicitDefEqProofs (disch := first | assumption | omega | exact Nat.zero_le _ | (simp only [List.length_nil, List.length_cons, List.length_append, List.length_map, List.length_replicate, List.length_reverse, List.length_range]; omega)) only [varO_s, consO_s, setL_0, setL_s, asg_one, asg_tup, asgs_nil, asgsK_s, asgs_cons, setK_s, setAll_nil, setAll_cons, wipeN_0, wipeN_s, wipe_nil, wipe_cons, mkTup_ok, mkLst_ok, mkDic_ok, mkLive_l, negD_i, notD_b, revD_l, kwA_s, kwD_s, addA_ok, gixO_s, asI_i, rng1D_ok, rng2D_ok, putO_s, raiO_ok, nxO_s, ifE_t, ifE_f, ifS_t, ifS_f, andE_t, andE_f, orE_t, orE_f, kTup_k, kTup_x, kLst_k, kLst_x, kLive_k, kLive_x, kDic_k, kDic_x, kBin2_k, kBin2_x, kBin1_k, kBin1_x, kNeg_k, kNeg_x, kNot_k, kNot_x, kCmp2_k, kCmp2_x, kCmp1_k, kCmp1_x, chnO_t, chnO_f, kChn2_k, kChn2_x, kChn1_k, kChn1_x, kIf_k, kIf_x, kAnd_k, kAnd_x, kOr_k, kOr_x, kIdx2_k, kIdx2_x, kIdx1_k, kIdx1_x, kSlc3_k, kSlc3_x, kSlc2_k, kSlc2_x, kSlc1_k, kSlc1_x, kRev_k, kRev_x, kCal_k, kCal_x, kKw_k, kKw_x, kIsi_k, kIsi_x, kBlt_k, kBlt_x, kMth2_k, kMth2_x, mthG_t, kMth1_k, kMth1_x, kGix_k, kGix_x, kEs2_k, kEs2_x, kEs1_k, kEs1_x, kAsI_k, kAsI_x, kSeq_k, kSeq_x, kRng1_k, kRng1_x, kRng2b_k, kRng2b_x, kRng2a_k, kRng2a_x, kEnu2_k, kEnu2_x, kEnu1_k, kEnu1_x, kZip4_k, kZip4_x, kZip3_k, kZip3_x, kZip2_k, kZip2_x, kZip1_k, kZip1_x, kRvs2_k, kRvs2_x, kRvs1_k, kRvs1_x, addK_k, ifC_t, ifC_f, ifCK_k, turn0_s, turn1_s, turnS_s, kLstR_k, kComp0_k, kComp0_x, kComp1_k, kComp1_x, sExpr_k, sExpr_x, sSet_k, sSet_x, sPar_k, sPar_x, sPut3_k, sPut3_x, sPut2_k, sPut2_x, sPut1_k, sPut1_x, sIf_k, sIf_x, sFor_k, sFor_x, sRet_k, sRet_x, sRai_k, sRai_x, sqB_nx, sqB_rt, sqB_bk, sqB_ct, sqB_x, tryK_nx, tryK_rt, s_try, e_var, e_con, e_glb, e_tup, e_lst, e_dsp, e_live, e_bin, e_neg, e_nt, e_cmp, e_chn, e_and, e_or, e_ite, e_idx, e_slc, e_rev, e_cal, e_calk, e_isi, e_blt, e_mth, e_comp0, e_comp1, e_gix, es_nil, es_cons, ep_no, ep_so, ea_1, ea_2, eo_1, eo_2, ei_seq, ei_rng1, ei_rng2, ei_enu, ei_zip, ei_rvs, s_expr, s_set, s_par, s_put, s_ifs, s_whl, s_for, s_ret, s_retn, s_brk, s_cnt, s_pas, s_rai, b_nil, b_cons, cx_cal, cx_glb, cx_gdc, cx_kws, cx_fld, cx_sub, cx_fuel, leave_rt, leave_nx, leave_exc, drf_tup, drf_lst, drf_ro, drfq_str, drfq_int, drfq_bl, drfq_non, drf_dic, drf_loc, drO_l, bin_add_i, bin_add_s, bin_add_t, bin_add_l, addO_ok, bin_sub_i, bin_mul_i, bin_mul_s, bin_fdiv_i, bin_mod_i, idx_r, idxR_t, idxR_l, idxR_r, idxR_d, at_n, at_0, at_1, at_2, at_3, at_4, at_5, at_m1, len_l, len_t, len_r, len_s, len_loc, lenR_l, seqD_l, seqD_t, seqD_r, seqD_loc, seqR_l, tup_q, lst_q, srcD_l, srcD_t, srcD_r, srcD_s, srcQ_l, srcQ_t, srcD_loc, srcO_l, cmp_eq, cmp_ne, cmp_isN, cmp_isnN, isNon_n, isNon_i, isNon_s, isNon_t, isNon_l, isNon_o, cmp_in, cmp_nin, cmp_lt_i, cmp_le_i, cmp_gt_i, cmp_ge_i, cmp_le_s, cmp_lt_s, eq_i, eq_s, eq_b, eq_si, eq_is, tru_b, tru_i, tru_n, isi_t_tuple, isi_t_list, isi_t_str, isi_t_int, isi_t_bool, isi_l_tuple, isi_l_list, isi_l_str, isi_l_int, isi_l_bool, isi_s_tuple, isi_s_list, isi_s_str, isi_s_int, isi_s_bool, isi_i_tuple, isi_i_list, isi_i_str, isi_i_int, isi_i_bool, isi_b_tuple, isi_b_list, isi_b_str, isi_b_int, isi_b_bool, isiq_n, isL_l, ty_append, ty_extend, ty_pop, ty_index, ty_join, m_append, appO_ok, m_extend, extO_ok, m_pop, popO_ok, st_get0, st_get1, st_get2, st_get3, st_set0, st_set1, st_set2, st_app, st_len, fin_f, fin_tk, fin_tx, Res.nox_ok, Res.nox_exc, ofO_some, ofO_none, reo, List.getElem?_cons_zero, List.getElem?_cons_succ, List.length_cons, List.length_nil, List.cons_append, List.nil_append, Option.map_some, Option.map_none, List.getLast?_cons_cons, List.getLast?_singleton, decide_true, decide_false, Bool.not_true, Bool.not_false, Nat.zero_add, Nat.reduceAdd, Nat.reduceLeDiff, Nat.reduceLT, Int.reduceNeg, List.length_map, if_true, if_false, goes_nx, goes_ct, ends_nx, ends_ct, ends_rt, reduceCtorEq, false_and, and_false, and_true, true_and, Bool.and_true, Bool.and_false, eqS_nn, eqS_nc, eqS_cn, eqS_cc, eqS_self, Nat.reduceBEq, Bool.true_and, Bool.false_and, beq_self_eq_true, slc_r, slcR_t, slcR_l, slcR_r, slcR_s, cut_hi, cut_lo, toNat_s, srt_r, in_tup, m_index, ixO_s, Int.reduceToNat, Int.toNat_natCast, Int.reduceSub, Int.reduceAdd, List.take_succ_cons, List.take_zero, List.drop_succ_cons, List.drop_zero, Int.reduceLT, Int.reduceLE, cast_0, cast_1, Int.cast_ofNat_Int, bin_add_loc, addR_l, eq_self, isNon_b, isNon_r, isNon_d, put_loc, putR_0, putR_n, in_str1, Int.reduceEq, List.set_cons_zero, List.set_cons_succ, int1_i, min2_i, max2_i, okP_ok, cut_m1, Nat.reduceSub, Nat.add_one_sub_one, evOn_s, gd_nil, gdS_nil, fld_e, row_e, eit_e, eO_none, eO_some, leave_rt, leave_nx, leave_exc, *])
theorem ok_great {n : Nat} {mo : Nat → Int} {ms : List Int} (hms : ∀ k, k < n → ms[k]? = some (mo k)) : ∀ (p : Part) {m : Nat} (S : Sto), p.dp + 1 ≤ m → p.ok n → callF G tab m "_law_great" [p.e, .lst (ms.map D.int)] S = .ok (.int (p.best mo).1) S := by
  intro p
  induction p using Part.ind with
  | hf k a b =>
    intro m S hm hp
    rw [Part.ok] at hp
    obtain ⟨m, rfl⟩ := lev (a := 0) (m := m) (by omega)
    have h1 : (ms.map D.int)[k]? = some (.int (mo k)) := by rw [List.getElem?_map, hms k hp.1]; rfl
    obtain ⟨_, ha, hb⟩ := hp
    rw [u__law_great, fld_e]
    walk_at "ev"
    rw [Part.best]
    congr 2
    omega
  | hr a s l b ps ih =>
    intro m S hm hp
    rw [row_ok] at hp
    rw [Part.dp] at hm
    obtain ⟨m, rfl⟩ := lev (a := 0) (m := m) (by omega)
    have h1 : ∀ p ∈ ps, callF G tab m "_law_great" [p.e, .lst (ms.map D.int)] S = .ok (.int (p.best mo).1) S := fun p hp' => ih p hp' S (by have := dp_le hp'; omega) (hp.2.2.2.2.2.2 p hp')
    obtain ⟨ha, hs, hl, hb, _, hn, _⟩ := hp
    clear ih hm hms
    rw [u__law_great, row_e, Part.best, bests_map]
    walk_at "ev"
    rw [comp0_one (e := Part.e) (g := fun p => .int (p.best mo).1)]
    · walk_at "ev"
      rw [sum_ints]
      have hsum : ((ps.map (Part.best mo)).map fun x => x.1) = ps.map fun p => (p.best mo).1 := by rw [List.map_map]; rfl
      rw [hsum]
      unfold sepsOf
      by_cases h2 : 1 < (ps.length : Int)
      · have h2' : 1 < ps.length := by omega
        cases l with
        | none =>
          have hl' : s.length ≤ 12 := hs
          walk_at "ev"
          congr 2
          simp only [Option.getD]
          rw [Int.mul_comm]
          omega
        | some x =>
          have hl' : x.length ≤ 12 := hl
          walk_at "ev"
          congr 2
          simp only [Option.getD]
          rw [Int.mul_comm]
          omega
      · have h2' : ¬ 1 < ps.length := by omega
        walk_at "ev"
        congr 2
        omega
    · intro p hp'
      have := h1 p hp'
      walk_at "ev"
    · omega
  | he ps ih =>
    intro m S hm hp
    rw [eit_ok] at hp
    rw [Part.dp] at hm
    obtain ⟨m, rfl⟩ := lev (a := 0) (m := m) (by omega)
    have h1 : ∀ p ∈ ps, callF G tab m "_law_great" [p.e, .lst (ms.map D.int)] S = .ok (.int (p.best mo).1) S := fun p hp' => ih p hp' S (by have := dp_le hp'; omega) (hp.2.2 p hp')
    obtain ⟨hne, hn, _⟩ := hp
    clear ih hm hms
    rw [u__law_great, eit_e, Part.best, bests_map]
    walk_at "ev"
    rw [comp0_one (e := Part.e) (g := fun p => .int (p.best mo).1)]
    · obtain ⟨q, qs, rfl⟩ := List.exists_cons_of_ne_nil hne
      have h3 : bltD S .max1 [.lst ((q :: qs).map fun p => .int (p.best mo).1)] = some (.int (maxB (q.best mo) (qs.map (Part.best mo))).1) := by
        rw [← maxI_B, ← max_int S, List.map_cons, List.map_cons, List.map_map, List.map_map]; rfl
      walk_at "ev"
      rfl
    · intro p hp'
      have := h1 p hp'
      walk_at "ev"
    · omega
/-- the rows that the law keeps of a template: none, or those of all sets -/
def RowsFor (t : Tpl) (d : D) : Prop := d = .non ∨ (d = .lst ((rowsOf t.pt t.fs.length).map eB) ∧ t.fs.length ≤ 6 ∧ 0 < t.fs.length)
theorem rowOf_lt {p : Part} {n : Nat} {xs : List Nat} (h : ∀ k ∈ p.flds, k < n) : ∀ k ∈ (rowOf p n xs).2, k < n := by
  intro k hk
  unfold rowOf at hk
  dsimp only at hk
  obtain ⟨pc, hpc, e⟩ := List.mem_filterMap.mp hk
  exact h k (put_flds pc hpc k e)
theorem ok_longestL {m : Nat} (t : Tpl) (ht : t.ok) (S : Sto) (hm : t.pt.dp + 2 ≤ m) (d : D) (hd : RowsFor t d) (mo : Nat → Int) (ms : List Int) (hms : ∀ k, k < t.fs.length → ms[k]? = some (mo k)) (hmo : ∀ k, k < t.fs.length → 0 ≤ mo k) :
    callF G tab m "_law_longest" [t.e, d, .lst (ms.map D.int)] S = .ok (.int (t.pt.best mo).1) S := by
  obtain ⟨m, rfl⟩ := lev (a := 1) (m := m) (by omega)
  have h1 := ok_great hms t.pt (m := m) S (by omega) ht.p
  rw [u__law_longest, tpl_e]
  rcases hd with rfl | ⟨rfl, h6, h0⟩
  · walk_at "ev"
  · have hrl : (rowsOf t.pt t.fs.length).length ≤ 64 := by
      rw [rowsOf, List.length_map, List.length_drop, subs_length]
      have : 2 ^ t.fs.length ≤ 64 := Nat.le_trans (Nat.pow_le_pow_right (by decide) h6) (by decide)
      omega
    walk_at "ev"
    rw [comp0_one (e := eB) (g := fun r => .int (rowVal mo r))]
    · have h3 : bltD S .max1 [.lst ((rowsOf t.pt t.fs.length).map fun r => .int (rowVal mo r))] = some (.int (t.pt.best mo).1) := by
        obtain ⟨r, rs, hr⟩ := List.exists_cons_of_ne_nil (rowsOf_ne (n := t.fs.length) (p := t.pt) h0)
        rw [hr]
        have := max_int S (rowVal mo r) (rs.map (rowVal mo))
        rw [← List.map_cons (f := rowVal mo), List.map_map] at this
        refine Eq.trans this ?_
        rw [rows_max ht.p ht.fl h0 hmo hr]
      walk_at "ev"
    · intro r hr
      obtain ⟨xs, hx, rfl⟩ := List.mem_map.mp hr
      have hb : (rowOf t.pt t.fs.length xs).2.length ≤ 5000 := by
        have h1 := put_len (setV t.fs.length xs) t.pt
        have h2 := ht.sz
        have h3 := List.length_filterMap_le (·.1) (t.pt.put (setV t.fs.length xs))
        unfold rowOf
        dsimp only
        omega
      have hlt := rowOf_lt (p := t.pt) (n := t.fs.length) (xs := xs) fun k hk => by rw [ht.fl] at hk; exact List.mem_range.mp hk
      obtain ⟨w, hw⟩ : ∃ w, rowOf t.pt t.fs.length xs = w := ⟨_, rfl⟩
      rw [hw] at hb hlt ⊢
      clear h1
      walk_at "ev"
      rw [comp0_one (e := eK) (g := fun k => .int (mo k))]
      · walk_at "ev"
        rw [sum_ints]
        walk_at "ev"
        rfl
      · intro k hk
        have h4 : (ms.map D.int)[k]? = some (.int (mo k)) := by rw [List.getElem?_map, hms k (hlt k hk)]; rfl
        walk_at "ev"
      · omega
    · omega
/-- the greatest lengths with one put in -/
theorem most_list (t : Tpl) {k : Nat} (hk : k < t.fs.length) (x : Int) (j : Nat) (hj : j < t.fs.length) : ((t.fs.map Fld.mo).take k ++ [x] ++ (t.fs.map Fld.mo).drop (k + 1))[j]? = some ((t.wm k x).mo j) := by
  have e : (t.fs.map Fld.mo).take k ++ [x] ++ (t.fs.map Fld.mo).drop (k + 1) = (t.wm k x).fs.map Fld.mo := by simp [Tpl.wm]
  have hj' : j < (t.wm k x).fs.length := by rw [wm_len t hk]; exact hj
  rw [e, List.getElem?_map, List.getElem?_eq_getElem hj', Tpl.mo_eq hj']; rfl
/-- where the search ends -/
theorem mostO_of (t : Tpl) {k : Nat} (hk : k < t.fs.length) (n : Int) {c : Nat} (hc : c ≤ 40) (h1 : c = 0 ∨ t.L k c ≤ n) (h2 : c = 40 ∨ n < t.L k (c + 1 : Nat)) : mostO t k n = if 0 < c then some (c - 1) else none := by
  unfold mostO mostL
  have hf : ((List.range 40).filter fun (j : Nat) => decide (t.L k (1 + j) ≤ n)) = List.range c := by
    have e : List.range 40 = List.range c ++ (List.range (40 - c)).map (c + ·) := by
      rw [← List.range_add]; congr 1; omega
    rw [e, List.filter_append]
    have ha : (List.range c).filter (fun (j : Nat) => decide (t.L k (1 + j) ≤ n)) = List.range c := by
      refine List.filter_eq_self.mpr fun j hj => decide_eq_true ?_
      have hj := List.mem_range.mp hj
      rcases h1 with h1 | h1
      · omega
      · have := L_mono t hk (x := 1 + j) (y := c) (by omega)
        omega
    have hb : ((List.range (40 - c)).map (c + ·)).filter (fun (j : Nat) => decide (t.L k (1 + j) ≤ n)) = [] := by
      refine List.filter_eq_nil_iff.mpr fun j hj => ?_
      obtain ⟨i, hi, rfl⟩ := List.mem_map.mp hj
      have hi := List.mem_range.mp hi
      intro hd
      have hd := of_decide_eq_true hd
      rcases h2 with h2 | h2
      · omega
      · have := L_mono t hk (x := (c + 1 : Nat)) (y := 1 + (c + i : Nat)) (by omega)
        omega
    rw [ha, hb, List.append_nil]
  rw [hf]
  cases c with
  | zero => rfl
  | succ c => rw [if_pos (by omega), List.range_succ]; simp
theorem ok_most {m : Nat} (t : Tpl) (ht : t.ok) (S : Sto) (hm : t.pt.dp + 3 ≤ m) (d : D) (hd : RowsFor t d) {k : Nat} (hk : k < t.fs.length) (n : Int) : callF G tab m "_law_most" [t.e, d, .int k, .int n] S = .ok (eN (mostO t k n)) S := by
  obtain ⟨m, rfl⟩ := lev (a := 2) (m := m) (by omega)
  have hl : (t.fs.map Fld.mo).length ≤ 24 := by simpa using ht.nf
  have hcall : ∀ c : Nat, 1 ≤ c → callF G tab m "_law_longest" [t.e, d, .lst ((t.fs.map Fld.mo).take k ++ [(c : Int)] ++ (t.fs.map Fld.mo).drop (k + 1) |>.map D.int)] S = .ok (.int (t.L k c)) S := fun c hc =>
    ok_longestL t ht S (by omega) d hd _ _ (fun j hj => most_list t hk c j hj) fun j hj => by
      rw [wm_mo t hk]
      split
      · omega
      · have := ht.mo1 hj; omega
  have htk : ((t.fs.map Fld.mo).take k).length ≤ 24 := by rw [List.length_take]; omega
  have htd : ((t.fs.map Fld.mo).drop (k + 1)).length ≤ 24 := by rw [List.length_drop]; omega
  rw [u__law_most]
  walk_at "ev"
  rw [tpl_e]
  walk_at "ev"
  rw [comp0_one (e := Fld.e) (g := fun f => .int f.mo)]
  · rw [show (t.fs.map fun f => D.int f.mo) = (t.fs.map Fld.mo).map D.int from by rw [List.map_map]; rfl, ← tpl_e]
    walk_at "ev"
    refine use_whl2 (P := fun r => leave _ S (sqB _ _ r) = _) (fun z ls S' => ∃ (a b : Nat) (o : Option D), S' = S ∧ ls = [some t.e, some d, some (.int k), some (.int n), some (.lst ((t.fs.map Fld.mo).map D.int)), some (.int a), some (.int b), o, none] ∧ a < b ∧ b ≤ 41 ∧ z = b - a ∧ (a = 0 ∨ t.L k a ≤ n) ∧ (b = 41 ∨ n < t.L k b))
      (fun ls S' => ∃ (a : Nat) (b : Int) (o : Option D), S' = S ∧ ls = [some t.e, some d, some (.int k), some (.int n), some (.lst ((t.fs.map Fld.mo).map D.int)), some (.int a), some (.int b), o, none] ∧ a ≤ 40 ∧ (a = 0 ∨ t.L k a ≤ n) ∧ (a = 40 ∨ n < t.L k (a + 1 : Nat))) 41 ?_ ?_ ?_ ?_
    · show 41 < 1000000
      decide
    · exact ⟨0, 41, none, rfl, rfl, by omega, by omega, rfl, .inl rfl, .inl rfl⟩
    · rintro z _ _ ⟨a, b, o, rfl, rfl, hab, hb, rfl, h1, h2⟩
      refine ⟨decide (1 < (b : Int) - a), ?_, ?_, ?_⟩
      · clear h1 h2 hcall
        walk_at "ev"
      · intro hc
        have hc := of_decide_eq_false hc
        have e : b = a + 1 := by omega
        subst e
        exact ⟨a, _, o, rfl, rfl, by omega, h1, h2.imp (fun h => by omega) id⟩
      · intro hc
        have hc := of_decide_eq_true hc
        obtain ⟨c, hcd⟩ : ∃ c, (a + b) / 2 = c := ⟨_, rfl⟩
        have e : ((a : Int) + b) / 2 = c := by omega
        have hac : a < c := by omega
        have hcb : c < b := by omega
        have hcl := hcall c (by omega)
        simp only [List.map_append, List.map_take, List.map_drop, List.map_singleton] at hcl
        have htk' : (((t.fs.map Fld.mo).map D.int).take k).length ≤ 24 := by rw [List.length_take, List.length_map]; omega
        have htd' : (((t.fs.map Fld.mo).map D.int).drop (k + 1)).length ≤ 24 := by rw [List.length_drop, List.length_map]; omega
        clear hcall hcd htk htd
        by_cases hL : t.L k c ≤ n
        · have g1 := h2
          clear h1 h2
          walk_at "ev"
          exact ⟨b - c, by omega, c, b, _, rfl, hcb, hb, rfl, .inr hL, g1⟩
        · have g1 := h1
          clear h1 h2
          walk_at "ev"
          exact ⟨c - a, by omega, a, c, _, rfl, hac, by omega, rfl, g1, .inr (by omega)⟩
    · rintro _ _ ⟨a, b, o, rfl, rfl, ha, h1, h2⟩
      rw [mostO_of t hk n ha h1 h2]
      clear hcall h1 h2
      by_cases h0 : 0 < a
      · have h0' : (0 : Int) < a := by omega
        walk_at "ev"
        rw [eN]
        congr 2
        omega
      · have h0' : ¬ (0 : Int) < a := by omega
        walk_at "ev"
        rfl
  · intro f hf
    rw [fld3_e]
    walk_at "ev"
  · have := ht.nf; omega
theorem ok_changed {m : Nat} (t : Tpl) (S : Sto) (hm : 1 ≤ m) (ht : t.fs.length ≤ 24) {k : Nat} (hk : k < t.fs.length) (x : Int) : callF G tab m "_law_changed" [t.e, .int k, .int x] S = .ok (t.wm k x).e S := by
  obtain ⟨m, rfl⟩ := lev hm
  have hl : (t.fs.map Fld.e).length ≤ 24 := by simpa using ht
  have h1 : ((t.fs.map Fld.e).take k).length ≤ 24 := by rw [List.length_take]; omega
  have h2 : ((t.fs.map Fld.e).drop (k + 1)).length ≤ 24 := by rw [List.length_drop]; omega
  have h3 := Tpl.at hk
  rw [u__law_changed, wm_e, tpl_e]
  walk_at "ev"
end K87
end Ev
/-! P87h: what the law's own defs compute: kind, same. -/
namespace Ev
namespace K87
open PySem L2
local macro_rules | `(tactic| walk_at "ev") => `(tactic| simp -implicitDefEqProofs (disch := first | assumption | omega | exact Nat.zero_le _ | (simp only [List.length_nil, List.length_cons, List.length_append, List.length_map, List.length_replicate, List.length_reverse, List.length_range]; omega)) only [varO_s, consO_s, setL_0, setL_s, asg_one, asg_tup, asgs_nil, asgsK_s, asgs_cons, setK_s, setAll_nil, setAll_cons, wipeN_0, wipeN_s, wipe_nil, wipe_cons, mkTup_ok, mkLst_ok, mkDic_ok, mkLive_l, negD_i, notD_b, revD_l, kwA_s, kwD_s, addA_ok, gixO_s, asI_i, rng1D_ok, rng2D_ok, putO_s, raiO_ok, nxO_s, ifE_t, ifE_f, ifS_t, ifS_f, andE_t, andE_f, orE_t, orE_f, kTup_k, kTup_x, kLst_k, kLst_x, kLive_k, kLive_x, kDic_k, kDic_x, kBin2_k, kBin2_x, kBin1_k, kBin1_x, kNeg_k, kNeg_x, kNot_k, kNot_x, kCmp2_k, kCmp2_x, kCmp1_k, kCmp1_x, chnO_t, chnO_f, kChn2_k, kChn2_x, kChn1_k, kChn1_x, kIf_k, kIf_x, kAnd_k, kAnd_x, kOr_k, kOr_x, kIdx2_k, kIdx2_x, kIdx1_k, kIdx1_x, kSlc3_k, kSlc3_x, kSlc2_k, kSlc2_x, kSlc1_k, kSlc1_x, kRev_k, kRev_x, kCal_k, kCal_x, kKw_k, kKw_x, kIsi_k, kIsi_x, kBlt_k, kBlt_x, kMth2_k, kMth2_x, mthG_t, kMth1_k, kMth1_x, kGix_k, kGix_x, kEs2_k, kEs2_x, kEs1_k, kEs1_x, kAsI_k, kAsI_x, kSeq_k, kSeq_x, kRng1_k, kRng1_x, kRng2b_k, kRng2b_x, kRng2a_k, kRng2a_x, kEnu2_k, kEnu2_x, kEnu1_k, kEnu1_x, kZip4_k, kZip4_x, kZip3_k, kZip3_x, kZip2_k, kZip2_x, kZip1_k, kZip1_x, kRvs2_k, kRvs2_x, kRvs1_k, kRvs1_x, addK_k, ifC_t, ifC_f, ifCK_k, turn0_s, turn1_s, turnS_s, kLstR_k, kComp0_k, kComp0_x, kComp1_k, kComp1_x, sExpr_k, sExpr_x, sSet_k, sSet_x, sPar_k, sPar_x, sPut3_k, sPut3_x, sPut2_k, sPut2_x, sPut1_k, sPut1_x, sIf_k, sIf_x, sFor_k, sFor_x, sRet_k, sRet_x, sRai_k, sRai_x, sqB_nx, sqB_rt, sqB_bk, sqB_ct, sqB_x, tryK_nx, tryK_rt, s_try, e_var, e_con, e_glb, e_tup, e_lst, e_dsp, e_live, e_bin, e_neg, e_nt, e_cmp, e_chn, e_and, e_or, e_ite, e_idx, e_slc, e_rev, e_cal, e_calk, e_isi, e_blt, e_mth, e_comp0, e_comp1, e_gix, es_nil, es_cons, ep_no, ep_so, ea_1, ea_2, eo_1, eo_2, ei_seq, ei_rng1, ei_rng2, ei_enu, ei_zip, ei_rvs, s_expr, s_set, s_par, s_put, s_ifs, s_whl, s_for, s_ret, s_retn, s_brk, s_cnt, s_pas, s_rai, b_nil, b_cons, cx_cal, cx_glb, cx_gdc, cx_kws, cx_fld, cx_sub, cx_fuel, leave_rt, leave_nx, leave_exc, drf_tup, drf_lst, drf_ro, drfq_str, drfq_int, drfq_bl, drfq_non, drf_dic, drf_loc, drO_l, bin_add_i, bin_add_s, bin_add_t, bin_add_l, addO_ok, bin_sub_i, bin_mul_i, bin_mul_s, bin_fdiv_i, bin_mod_i, idx_r, idxR_t, idxR_l, idxR_r, idxR_d, at_n, at_0, at_1, at_2, at_3, at_4, at_5, at_m1, len_l, len_t, len_r, len_s, len_loc, lenR_l, seqD_l, seqD_t, seqD_r, seqD_loc, seqR_l, tup_q, lst_q, srcD_l, srcD_t, srcD_r, srcD_s, srcQ_l, srcQ_t, srcD_loc, srcO_l, cmp_eq, cmp_ne, cmp_isN, cmp_isnN, isNon_n, isNon_i, isNon_s, isNon_t, isNon_l, isNon_o, cmp_in, cmp_nin, cmp_lt_i, cmp_le_i, cmp_gt_i, cmp_ge_i, cmp_le_s, cmp_lt_s, eq_i, eq_s, eq_b, eq_si, eq_is, tru_b, tru_i, tru_n, isi_t_tuple, isi_t_list, isi_t_str, isi_t_int, isi_t_bool, isi_l_tuple, isi_l_list, isi_l_str, isi_l_int, isi_l_bool, isi_s_tuple, isi_s_list, isi_s_str, isi_s_int, isi_s_bool, isi_i_tuple, isi_i_list, isi_i_str, isi_i_int, isi_i_bool, isi_b_tuple, isi_b_list, isi_b_str, isi_b_int, isi_b_bool, isiq_n, isL_l, ty_append, ty_extend, ty_pop, ty_index, ty_join, m_append, appO_ok, m_extend, extO_ok, m_pop, popO_ok, st_get0, st_get1, st_get2, st_get3, st_set0, st_set1, st_set2, st_app, st_len, fin_f, fin_tk, fin_tx, Res.nox_ok, Res.nox_exc, ofO_some, ofO_none, reo, List.getElem?_cons_zero, List.getElem?_cons_succ, List.length_cons, List.length_nil, List.cons_append, List.nil_append, Option.map_some, Option.map_none, List.getLast?_cons_cons, List.getLast?_singleton, decide_true, decide_false, Bool.not_true, Bool.not_false, Nat.zero_add, Nat.reduceAdd, Nat.reduceLeDiff, Nat.reduceLT, Int.reduceNeg, List.length_map, if_true, if_false, goes_nx, goes_ct, ends_nx, ends_ct, ends_rt, reduceCtorEq, false_and, and_false, and_true, true_and, Bool.and_true, Bool.and_false, eqS_nn, eqS_nc, eqS_cn, eqS_cc, eqS_self, Nat.reduceBEq, Bool.true_and, Bool.false_and, beq_self_eq_true, slc_r, slcR_t, slcR_l, slcR_r, slcR_s, cut_hi, cut_lo, toNat_s, srt_r, in_tup, m_index, ixO_s, Int.reduceToNat, Int.toNat_natCast, Int.reduceSub, Int.reduceAdd, List.take_succ_cons, List.take_zero, List.drop_succ_cons, List.drop_zero, Int.reduceLT, Int.reduceLE, cast_0, cast_1, Int.cast_ofNat_Int, bin_add_loc, addR_l, eq_self, isNon_b, isNon_r, isNon_d, put_loc, putR_0, putR_n, in_str1, Int.reduceEq, List.set_cons_zero, List.set_cons_succ, int1_i, min2_i, max2_i, okP_ok, cut_m1, Nat.reduceSub, Nat.add_one_sub_one, evOn_s, gd_nil, gdS_nil, fld_e, row_e, eit_e, eO_none, eO_some, leave_rt, leave_nx, leave_exc, *])
abbrev cLet : Tx := [65, 66, 67, 68, 69, 70, 71, 72, 73, 74, 75, 76, 77, 78, 79, 80, 81, 82, 83, 84, 85, 86, 87, 88, 89, 90, 97, 98, 99, 100, 101, 102, 103, 104, 105, 106, 107, 108, 109, 110, 111, 112, 113, 114, 115, 116, 117, 118, 119, 120, 121, 122]
abbrev cDig : Tx := [48, 49, 50, 51, 52, 53, 54, 55, 56, 57]
/-- the signs of a kind -/
def signsK (kd : Tx) : Tx := if kd = sLet then cLet else if kd = sDig then cDig else cDig ++ cLet
theorem ok_kind {m : Nat} (kd : Tx) (h : kd = sLet ∨ kd = sDig ∨ kd = sSig) (S : Sto) (hm : 1 ≤ m) : callF G tab m "_law_kind" [.str kd] S = .ok (.str (signsK kd)) S := by
  obtain ⟨m, rfl⟩ := lev hm
  rw [u__law_kind]
  rcases h with rfl | rfl | rfl <;> rfl
theorem sgn_in {kd : Tx} (h : kd = sLet ∨ kd = sDig ∨ kd = sSig) : ∃ c, sgnK kd = [c] ∧ c ∈ signsK kd := by
  rcases h with rfl | rfl | rfl
  · exact ⟨97, rfl, by decide⟩
  · exact ⟨48, rfl, by decide⟩
  · exact ⟨97, rfl, by decide⟩
/-! ### same -/
mutual
/-- data without dicts and lists of the store -/
def _root_.Ev.D.sm : D → Bool
  | .tup xs => sms xs
  | .lst xs => sms xs
  | .dic _ _ => false
  | .loc _ => false
  | .ro _ => false
  | _ => true
def sms : List D → Bool
  | [] => true
  | x :: xs => x.sm && sms xs
end
mutual
def _root_.Ev.D.cnt : D → Nat
  | .tup xs => cnts xs + 1
  | .lst xs => cnts xs + 1
  | _ => 1
def cnts : List D → Nat
  | [] => 0
  | x :: xs => x.cnt + cnts xs
end
theorem sms_all : ∀ {xs : List D}, sms xs = true → ∀ x ∈ xs, x.sm = true
  | [], _, _, h => nomatch h
  | y :: ys, e, x, h => by
    rw [sms, Bool.and_eq_true] at e
    rcases List.mem_cons.mp h with rfl | h
    · exact e.1
    · exact sms_all e.2 x h
theorem cnts_eq : ∀ xs : List D, cnts xs = (xs.map D.cnt).sum
  | [] => rfl
  | x :: xs => by rw [cnts, cnts_eq xs]; rfl
theorem len_cnts : ∀ xs : List D, xs.length ≤ cnts xs
  | [] => by simp
  | x :: xs => by
    rw [cnts, List.length_cons]
    have h1 := len_cnts xs
    have h2 : 1 ≤ x.cnt := by cases x <;> simp [D.cnt]
    omega
abbrev eD2 (d : D) : D := .tup [d, d]
theorem ok_same {m : Nat} (d : D) (S : Sto) (hm : 1 ≤ m) (hs : d.sm = true) (hc : d.cnt ≤ 100000) : callF G tab m "_law_same" [d, d] S = .ok (.bl true) S := by
  obtain ⟨m, rfl⟩ := lev hm
  rw [u__law_same]
  walk_at "ev"
  obtain ⟨N, hN⟩ : ∃ N : Nat, N = 3000000 := ⟨_, rfl⟩
  simp only [← hN]
  rw [rngL0]
  refine use_forE (e := fun (k : Nat) => .int k) (P := fun r => leave _ S (sqB _ _ r) = _) (fun pre ls S' => ∃ (st : List D) (o3 o4 o5 o6 : Option D), ls = [some d, some d, some (.loc S.length), o3, o4, o5, o6] ∧ S' = S ++ [.lst (st.map eD2)] ∧ (∀ x ∈ st, x.sm = true) ∧ (st.map D.cnt).sum + pre.length = d.cnt) (fun r S' => r = .bl true ∧ ∃ T, S' = S ++ T) ⟨[d], _, _, _, _, rfl, rfl, by simpa using hs, by simp⟩ ?_ ?_ ?_
  · rintro pre k post _ _ he ⟨st, o3, o4, o5, o6, rfl, rfl, hsm, hcnt⟩
    rcases List.eq_nil_or_concat st with rfl | ⟨st, x, rfl⟩
    · walk_at "ev"
      exact ⟨_, rfl⟩
    · rw [List.concat_eq_append] at hsm hcnt ⊢
      rw [List.map_append, List.map_singleton]
      have hx : x.sm = true := hsm x (by simp)
      have hst : ∀ y ∈ st, y.sm = true := fun y hy => hsm y (by simp [hy])
      have hne : ¬ (((st.map eD2 ++ [eD2 x]).length : Nat) : Int) = 0 := by simp; omega
      rw [List.map_append, List.sum_append] at hcnt
      clear hsm he
      cases x with
      | non =>
        clear hx
        walk_at "ev"
        exact ⟨st, _, _, _, _, rfl, rfl, hst, by simp [D.cnt] at hcnt ⊢; omega⟩
      | bl b =>
        clear hx
        walk_at "ev"
        exact ⟨st, _, _, _, _, rfl, rfl, hst, by simp [D.cnt] at hcnt ⊢; omega⟩
      | int i =>
        clear hx
        walk_at "ev"
        exact ⟨st, _, _, _, _, rfl, rfl, hst, by simp [D.cnt] at hcnt ⊢; omega⟩
      | str s =>
        clear hx
        walk_at "ev"
        exact ⟨st, _, _, _, _, rfl, rfl, hst, by simp [D.cnt] at hcnt ⊢; omega⟩
      | tup xs =>
        have hcx : cnts xs ≤ 100000 := by simp [D.cnt] at hcnt; omega
        have hlx := len_cnts xs
        have hsx : sms xs = true := hx
        have hlst : st.length ≤ 100000 := by
          have : st.length ≤ (st.map D.cnt).sum := by rw [← cnts_eq]; exact len_cnts st
          omega
        have hxl : xs.length ≤ 100000 := by omega
        clear hx
        walk_at "ev"
        rw [rngL0]
        refine use_for (e := fun (k : Nat) => .int k) (P := fun r => (sqB _ _ (sqB _ _ r)).ends _ _) (fun pre ls S' => ∃ (o : Option D), ls = [some d, some d, some (.loc S.length), some (.int k), some (.tup xs), some (.tup xs), o] ∧ S' = S ++ [.lst ((st ++ xs.take pre.length).map eD2)]) ⟨_, rfl, by simp⟩ ?_ ?_
        · rintro pre2 j post2 _ _ he2 ⟨o, rfl, rfl⟩
          obtain ⟨hj, hjl, hpre2⟩ := range_split he2
          clear hpre2
          subst hj
          have hat : xs[pre2.length]? = some xs[pre2.length] := List.getElem?_eq_getElem hjl
          have hl2 : (List.map eD2 (st ++ xs.take pre2.length)).length ≤ 200000 := by simp; omega
          clear he2 hcnt
          walk_at "ev"
          refine ⟨_, rfl, ?_⟩
          have hT : xs.take (pre2.length + 1) = xs.take pre2.length ++ [xs[pre2.length]] := by rw [List.take_add_one, hat]; rfl
          rw [List.length_append, List.length_singleton, hT]
          simp only [List.map_append, List.append_assoc, List.map_cons, List.map_nil]
        · rintro _ _ ⟨o, rfl, rfl⟩
          rw [List.length_range, List.take_length]
          walk_at "ev"
          refine ⟨st ++ xs, _, _, _, _, rfl, rfl, fun y hy => ?_, ?_⟩
          · rcases List.mem_append.mp hy with hy | hy
            · exact hst y hy
            · exact sms_all hsx y hy
          · rw [List.map_append, List.sum_append, ← cnts_eq xs]
            simp [D.cnt] at hcnt ⊢; omega
      | lst xs =>
        have hcx : cnts xs ≤ 100000 := by simp [D.cnt] at hcnt; omega
        have hlx := len_cnts xs
        have hsx : sms xs = true := hx
        have hlst : st.length ≤ 100000 := by
          have : st.length ≤ (st.map D.cnt).sum := by rw [← cnts_eq]; exact len_cnts st
          omega
        have hxl : xs.length ≤ 100000 := by omega
        clear hx
        walk_at "ev"
        rw [rngL0]
        refine use_for (e := fun (k : Nat) => .int k) (P := fun r => (sqB _ _ (sqB _ _ r)).ends _ _) (fun pre ls S' => ∃ (o : Option D), ls = [some d, some d, some (.loc S.length), some (.int k), some (.lst xs), some (.lst xs), o] ∧ S' = S ++ [.lst ((st ++ xs.take pre.length).map eD2)]) ⟨_, rfl, by simp⟩ ?_ ?_
        · rintro pre2 j post2 _ _ he2 ⟨o, rfl, rfl⟩
          obtain ⟨hj, hjl, hpre2⟩ := range_split he2
          clear hpre2
          subst hj
          have hat : xs[pre2.length]? = some xs[pre2.length] := List.getElem?_eq_getElem hjl
          have hl2 : (List.map eD2 (st ++ xs.take pre2.length)).length ≤ 200000 := by simp; omega
          clear he2 hcnt
          walk_at "ev"
          refine ⟨_, rfl, ?_⟩
          have hT : xs.take (pre2.length + 1) = xs.take pre2.length ++ [xs[pre2.length]] := by rw [List.take_add_one, hat]; rfl
          rw [List.length_append, List.length_singleton, hT]
          simp only [List.map_append, List.append_assoc, List.map_cons, List.map_nil]
        · rintro _ _ ⟨o, rfl, rfl⟩
          rw [List.length_range, List.take_length]
          walk_at "ev"
          refine ⟨st ++ xs, _, _, _, _, rfl, rfl, fun y hy => ?_, ?_⟩
          · rcases List.mem_append.mp hy with hy | hy
            · exact hst y hy
            · exact sms_all hsx y hy
          · rw [List.map_append, List.sum_append, ← cnts_eq xs]
            simp [D.cnt] at hcnt ⊢; omega
      | dic _ _ => cases hx
      | loc _ => cases hx
      | ro _ => cases hx
  · rintro _ _ ⟨st, o3, o4, o5, o6, rfl, rfl, _, h⟩
    rw [List.length_range] at h
    omega
  · rintro _ _ ⟨rfl, T, rfl⟩
    walk_at "ev"
    exact leave_bel rfl
end K87
end Ev
/-! P87i: what the law's own defs compute: refused, breaks, asked. -/
namespace Ev
namespace K87
open PySem L2
local macro_rules | `(tactic| walk_at "ev") => `(tactic| simp -implicitDefEqProofs (disch := first | assumption | omega | exact Nat.zero_le _ | (simp only [List.length_nil, List.length_cons, List.length_append, List.length_map, List.length_replicate, List.length_reverse, List.length_range]; omega)) only [varO_s, consO_s, setL_0, setL_s, asg_one, asg_tup, asgs_nil, asgsK_s, asgs_cons, setK_s, setAll_nil, setAll_cons, wipeN_0, wipeN_s, wipe_nil, wipe_cons, mkTup_ok, mkLst_ok, mkDic_ok, mkLive_l, negD_i, notD_b, revD_l, kwA_s, kwD_s, addA_ok, gixO_s, asI_i, rng1D_ok, rng2D_ok, putO_s, raiO_ok, nxO_s, ifE_t, ifE_f, ifS_t, ifS_f, andE_t, andE_f, orE_t, orE_f, kTup_k, kTup_x, kLst_k, kLst_x, kLive_k, kLive_x, kDic_k, kDic_x, kBin2_k, kBin2_x, kBin1_k, kBin1_x, kNeg_k, kNeg_x, kNot_k, kNot_x, kCmp2_k, kCmp2_x, kCmp1_k, kCmp1_x, chnO_t, chnO_f, kChn2_k, kChn2_x, kChn1_k, kChn1_x, kIf_k, kIf_x, kAnd_k, kAnd_x, kOr_k, kOr_x, kIdx2_k, kIdx2_x, kIdx1_k, kIdx1_x, kSlc3_k, kSlc3_x, kSlc2_k, kSlc2_x, kSlc1_k, kSlc1_x, kRev_k, kRev_x, kCal_k, kCal_x, kKw_k, kKw_x, kIsi_k, kIsi_x, kBlt_k, kBlt_x, kMth2_k, kMth2_x, mthG_t, kMth1_k, kMth1_x, kGix_k, kGix_x, kEs2_k, kEs2_x, kEs1_k, kEs1_x, kAsI_k, kAsI_x, kSeq_k, kSeq_x, kRng1_k, kRng1_x, kRng2b_k, kRng2b_x, kRng2a_k, kRng2a_x, kEnu2_k, kEnu2_x, kEnu1_k, kEnu1_x, kZip4_k, kZip4_x, kZip3_k, kZip3_x, kZip2_k, kZip2_x, kZip1_k, kZip1_x, kRvs2_k, kRvs2_x, kRvs1_k, kRvs1_x, addK_k, ifC_t, ifC_f, ifCK_k, turn0_s, turn1_s, turnS_s, kLstR_k, kComp0_k, kComp0_x, kComp1_k, kComp1_x, sExpr_k, sExpr_x, sSet_k, sSet_x, sPar_k, sPar_x, sPut3_k, sPut3_x, sPut2_k, sPut2_x, sPut1_k, sPut1_x, sIf_k, sIf_x, sFor_k, sFor_x, sRet_k, sRet_x, sRai_k, sRai_x, sqB_nx, sqB_rt, sqB_bk, sqB_ct, sqB_x, tryK_nx, tryK_rt, s_try, e_var, e_con, e_glb, e_tup, e_lst, e_dsp, e_live, e_bin, e_neg, e_nt, e_cmp, e_chn, e_and, e_or, e_ite, e_idx, e_slc, e_rev, e_cal, e_calk, e_isi, e_blt, e_mth, e_comp0, e_comp1, e_gix, es_nil, es_cons, ep_no, ep_so, ea_1, ea_2, eo_1, eo_2, ei_seq, ei_rng1, ei_rng2, ei_enu, ei_zip, ei_rvs, s_expr, s_set, s_par, s_put, s_ifs, s_whl, s_for, s_ret, s_retn, s_brk, s_cnt, s_pas, s_rai, b_nil, b_cons, cx_cal, cx_glb, cx_gdc, cx_kws, cx_fld, cx_sub, cx_fuel, leave_rt, leave_nx, leave_exc, drf_tup, drf_lst, drf_ro, drfq_str, drfq_int, drfq_bl, drfq_non, drf_dic, drf_loc, drO_l, bin_add_i, bin_add_s, bin_add_t, bin_add_l, addO_ok, bin_sub_i, bin_mul_i, bin_mul_s, bin_fdiv_i, bin_mod_i, idx_r, idxR_t, idxR_l, idxR_r, idxR_d, at_n, at_0, at_1, at_2, at_3, at_4, at_5, at_m1, len_l, len_t, len_r, len_s, len_loc, lenR_l, seqD_l, seqD_t, seqD_r, seqD_loc, seqR_l, tup_q, lst_q, srcD_l, srcD_t, srcD_r, srcD_s, srcQ_l, srcQ_t, srcD_loc, srcO_l, cmp_eq, cmp_ne, cmp_isN, cmp_isnN, isNon_n, isNon_i, isNon_s, isNon_t, isNon_l, isNon_o, cmp_in, cmp_nin, cmp_lt_i, cmp_le_i, cmp_gt_i, cmp_ge_i, cmp_le_s, cmp_lt_s, eq_i, eq_s, eq_b, eq_si, eq_is, tru_b, tru_i, tru_n, isi_t_tuple, isi_t_list, isi_t_str, isi_t_int, isi_t_bool, isi_l_tuple, isi_l_list, isi_l_str, isi_l_int, isi_l_bool, isi_s_tuple, isi_s_list, isi_s_str, isi_s_int, isi_s_bool, isi_i_tuple, isi_i_list, isi_i_str, isi_i_int, isi_i_bool, isi_b_tuple, isi_b_list, isi_b_str, isi_b_int, isi_b_bool, isiq_n, isL_l, ty_append, ty_extend, ty_pop, ty_index, ty_join, m_append, appO_ok, m_extend, extO_ok, m_pop, popO_ok, st_get0, st_get1, st_get2, st_get3, st_set0, st_set1, st_set2, st_app, st_len, fin_f, fin_tk, fin_tx, Res.nox_ok, Res.nox_exc, ofO_some, ofO_none, reo, List.getElem?_cons_zero, List.getElem?_cons_succ, List.length_cons, List.length_nil, List.cons_append, List.nil_append, Option.map_some, Option.map_none, List.getLast?_cons_cons, List.getLast?_singleton, decide_true, decide_false, Bool.not_true, Bool.not_false, Nat.zero_add, Nat.reduceAdd, Nat.reduceLeDiff, Nat.reduceLT, Int.reduceNeg, List.length_map, if_true, if_false, goes_nx, goes_ct, ends_nx, ends_ct, ends_rt, reduceCtorEq, false_and, and_false, and_true, true_and, Bool.and_true, Bool.and_false, eqS_nn, eqS_nc, eqS_cn, eqS_cc, eqS_self, Nat.reduceBEq, Bool.true_and, Bool.false_and, beq_self_eq_true, slc_r, slcR_t, slcR_l, slcR_r, slcR_s, cut_hi, cut_lo, toNat_s, srt_r, in_tup, m_index, ixO_s, Int.reduceToNat, Int.toNat_natCast, Int.reduceSub, Int.reduceAdd, List.take_succ_cons, List.take_zero, List.drop_succ_cons, List.drop_zero, Int.reduceLT, Int.reduceLE, cast_0, cast_1, Int.cast_ofNat_Int, bin_add_loc, addR_l, eq_self, isNon_b, isNon_r, isNon_d, put_loc, putR_0, putR_n, in_str1, Int.reduceEq, List.set_cons_zero, List.set_cons_succ, int1_i, min2_i, max2_i, okP_ok, cut_m1, Nat.reduceSub, Nat.add_one_sub_one, evOn_s, gd_nil, gdS_nil, fld_e, row_e, eit_e, eO_none, eO_some, leave_rt, leave_nx, leave_exc, *])
theorem try_BS (cx : Cxt) (hf : cx.fld = G.fld) (hs : cx.sub = G.sub) (ls : Loc) (S : Sto) (w : Tx) : tryK cx "BadStep" (.cons (.con (.str [114, 101, 102, 117, 115, 101, 100])) (.cons (.exf 4 "word") .nil)) (.exc "BadStep" [("word", .str w)] ls S) = .rt (.tup [.str [114, 101, 102, 117, 115, 101, 100], .str w]) S := by
  unfold tryK
  rw [hf, hs]
  simp [xok, G, hotL, hotV]
abbrev sTold : Tx := [116, 111, 108, 100]
abbrev sRef : Tx := [114, 101, 102, 117, 115, 101, 100]
theorem refused0 {m : Nat} (t : Tpl) (ht : t.ok) (S : Sto) (hm : t.pt.dp + 8 ≤ m) {k : Nat} (hk : k < t.fs.length) (n : Int) : callF G tab m "_law_refused" [.int 0, t.e, .str (t.nm k), .int n] S = .ok (.tup [.str sTold, eN (mostO t k n)]) S := by
  obtain ⟨m, rfl⟩ := lev (a := 7) (m := m) (by omega)
  have h1 := ok_most_for (m := m) t ht S (by omega) hk n
  rw [u__law_refused]
  walk_at "ev"
theorem refused0n {m : Nat} (t : Tpl) (ht : t.ok) (S : Sto) (hm : 4 ≤ m) {x : Tx} (hx : x ∉ t.fs.map Fld.nm) (n : Int) : callF G tab m "_law_refused" [.int 0, t.e, .str x, .int n] S = .ok (.tup [.str sRef, .str sF]) S := by
  obtain ⟨m, rfl⟩ := lev (a := 3) (m := m) (by omega)
  have h1 := no_most_for (m := m) t ht S (by omega) hx n
  have h2 := try_BS (G.cx (callF G tab m)) rfl rfl
  rw [u__law_refused]
  walk_at "ev"
theorem refused1 {m : Nat} (t : Tpl) (ht : t.ok) (S : Sto) (hm : 4 ≤ m) {k : Nat} (hk : k < t.fs.length) (x : Int) (h1 : 1 ≤ x) (h2 : x ≤ 40) : callF G tab m "_law_refused" [.int 1, t.e, .str (t.nm k), .int x] S = .ok (.tup [.str sTold, (t.wm k x).e]) S := by
  obtain ⟨m, rfl⟩ := lev (a := 3) (m := m) (by omega)
  have h1 := ok_with_most (m := m) t S (by omega) ht.nf ht.nd hk x h1 h2
  have h3 : (1 : Int) ≠ 0 := by decide
  rw [u__law_refused]
  walk_at "ev"
theorem refused1m {m : Nat} (t : Tpl) (ht : t.ok) (S : Sto) (hm : 4 ≤ m) {k : Nat} (hk : k < t.fs.length) (x : Int) (h : ¬ (1 ≤ x ∧ x ≤ 40)) : callF G tab m "_law_refused" [.int 1, t.e, .str (t.nm k), .int x] S = .ok (.tup [.str sRef, .str [109, 111, 115, 116]]) S := by
  obtain ⟨m, rfl⟩ := lev (a := 3) (m := m) (by omega)
  have h1 := no_with_most (m := m) t S (by omega) ht.nf ht.nd hk x h
  have h2 := try_BS (G.cx (callF G tab m)) rfl rfl
  have h3 : (1 : Int) ≠ 0 := by decide
  clear h
  rw [u__law_refused]
  walk_at "ev"
theorem refused1n {m : Nat} (t : Tpl) (ht : t.ok) (S : Sto) (hm : 4 ≤ m) {n : Tx} (hn : n ∉ t.fs.map Fld.nm) (x : Int) : callF G tab m "_law_refused" [.int 1, t.e, .str n, .int x] S = .ok (.tup [.str sRef, .str sF]) S := by
  obtain ⟨m, rfl⟩ := lev (a := 3) (m := m) (by omega)
  have h1 := no_with_most_f (m := m) t S (by omega) ht.nf hn x
  have h2 := try_BS (G.cx (callF G tab m)) rfl rfl
  have h3 : (1 : Int) ≠ 0 := by decide
  rw [u__law_refused]
  walk_at "ev"
theorem recP_inj {t : Tpl} (ht : t.ok) {j k : Nat} (hj : j < t.fs.length) (hk : k < t.fs.length) (h : t.nm j = t.nm k) : j = k := by
  rw [Tpl.nm_eq hj, Tpl.nm_eq hk] at h
  apply Classical.byContradiction
  intro hne
  have e : (t.fs.map Fld.nm)[j]'(by simpa using hj) = (t.fs.map Fld.nm)[k]'(by simpa using hk) := by simpa using h
  rcases Nat.lt_or_gt_of_ne hne with h' | h'
  · exact (List.pairwise_iff_getElem.mp ht.nd) j k (by simpa using hj) (by simpa using hk) h' e
  · exact (List.pairwise_iff_getElem.mp ht.nd) k j (by simpa using hk) (by simpa using hj) h' e.symm
theorem recV {t : Tpl} (ht : t.ok) {k : Nat} (hk : k < t.fs.length) : ∃ c, (recP t k).2 = List.replicate (t.mo k).toNat c ∧ c ∈ signsK (t.kd k) := by
  obtain ⟨c, h1, h2⟩ := sgn_in (kd := t.kd k) (by rw [Tpl.kd_eq hk]; exact (ht.at hk).1)
  refine ⟨c, ?_, h2⟩
  unfold recP
  rw [h1]
  induction (t.mo k).toNat with
  | zero => rfl
  | succ n ih => rw [List.replicate_succ, List.replicate_succ, List.flatten_cons, ← ih]; rfl
/-- the pairs, sorted: each a field's, the names going up -/
structure RecOf (t : Tpl) (F : List Nat) (P : List (Tx × Tx)) : Prop where
  mem : ∀ p, p ∈ P ↔ ∃ k ∈ F, p = recP t k
  asc : P.Pairwise fun a b => a.1 < b.1
theorem recOf {t : Tpl} (ht : t.ok) {F : List Nat} (hF : ∀ k ∈ F, k < t.fs.length) (hn : F.Nodup) : ∃ P, srtD ((F.map (recP t)).map eP) = P.map eP ∧ RecOf t F P ∧ P.length = F.length := by
  obtain ⟨P, h1, h2, h3⟩ := srtP (F.map (recP t))
  refine ⟨P, h1, ⟨fun p => ?_, h3 ?_⟩, by rw [h2.length_eq, List.length_map]⟩
  · rw [h2.mem_iff, List.mem_map]
    constructor
    · rintro ⟨k, hk, rfl⟩; exact ⟨k, hk, rfl⟩
    · rintro ⟨k, hk, rfl⟩; exact ⟨k, hk, rfl⟩
  · rw [List.map_map, List.Nodup, List.pairwise_map]
    refine hn.imp_of_mem fun {a b} ha hb hab e => hab (recP_inj ht (hF a ha) (hF b hb) e)
/-- the last name told -/
def lastN (pre : List (Tx × Tx)) : Tx := (pre.getLast?.map (·.1)).getD []
theorem lastN_snoc (pre : List (Tx × Tx)) (p : Tx × Tx) : lastN (pre ++ [p]) = p.1 := by simp [lastN]
theorem lastN_lt {t : Tpl} {F : List Nat} {P pre post : List (Tx × Tx)} {p : Tx × Tx} (R : RecOf t F P) (h : P = pre ++ p :: post) (hne : p.1 ≠ []) : lastN pre < p.1 := by
  rcases List.eq_nil_or_concat pre with rfl | ⟨q, y, rfl⟩
  · unfold lastN
    cases hp : p.1 with
    | nil => exact absurd hp hne
    | cons a s => simp
  · rw [List.concat_eq_append] at h ⊢
    rw [lastN_snoc]
    have := R.asc
    rw [h, List.append_assoc, List.pairwise_append] at this
    have := this.2.1
    rw [List.singleton_append, List.pairwise_cons] at this
    exact this.1 p (by simp)
theorem ok_breaks {m : Nat} (t : Tpl) (ht : t.ok) (S : Sto) (hm : t.pt.dp + 4 ≤ m) (n : Int) (hn : n < (t.pt.best t.mo).1) : callF G tab m "_law_breaks" [t.e, .int n, .tup [.str [98, 114, 111, 107, 101, 110], .tup (srtD (((t.pt.best t.mo).2.map (recP t)).map eP))]] S = .ok (.bl true) S := by
  obtain ⟨m, rfl⟩ := lev (a := 3) (m := m) (by omega)
  obtain ⟨N, hN⟩ : ∃ N, t.fs.length = N := ⟨_, rfl⟩
  have hFn : (t.pt.best t.mo).2.Nodup := best_nodup ht.p ht.ndf
  have hFl : ∀ k ∈ (t.pt.best t.mo).2, k < t.fs.length := fun k hk => best_lt ht.p k hk
  obtain ⟨P, hP, R, hPl⟩ := recOf ht hFl hFn
  rw [hP]
  clear hP
  have hPl24 : P.length ≤ 100 := by rw [hPl]; exact Nat.le_trans (best_len _ _) ht.nl
  have hNl : ((t.fs.map Fld.e).length : Int) = N := by simp [hN]
  have hN24 : N ≤ 24 := by rw [← hN]; exact ht.nf
  have h1 := fun S => ok_same (m := m) (.str [98, 114, 111, 107, 101, 110]) S (by omega) rfl (by simp [D.cnt])
  rw [u__law_breaks, tpl_e]
  walk_at "ev"
  rw [comp0_one (e := Fld.e) (g := fun _ => .non)]
  · walk_at "ev"
    have e0 : (t.fs.map fun _ => D.non) = (List.replicate N (none : Option Tx)).map eO := by
      rw [← hN, List.map_const', List.map_replicate]; rfl
    rw [e0]
    refine use_for (e := eP) (P := fun r => leave _ S (sqB _ _ r) = _) (fun pre ls S' => ∃ (vs : Vals) (o3 o6 : Option D), ls = [some (D.tup [D.tup (List.map Fld.e t.fs), t.pt.e, D.str t.no]), some (.int n), some (.tup [.str [98, 114, 111, 107, 101, 110], .tup (P.map eP)]), o3, some (.str (lastN pre)), some (.loc S.length), o6, none, none, none, none] ∧ S' = S ++ [.lst (vs.map eO)] ∧ vs.length = N ∧ ∀ k, k < N → vs[k]? = some (if recP t k ∈ pre then some (recP t k).2 else none)) ⟨_, _, _, rfl, rfl, by simp, fun k hk => by simp [hk]⟩ ?_ ?_
    · rintro pre p post _ _ he ⟨vs, o3, o6, rfl, rfl, hvl, hvs⟩
      have hpm : p ∈ P := by rw [he]; simp
      obtain ⟨k0, hk0F, rfl⟩ := (R.mem p).mp hpm
      have hk0 := hFl k0 hk0F
      have hk0N : k0 < N := by rw [← hN]; exact hk0
      have hf := ht.at hk0
      have hlt := lastN_lt R he (by rw [show (recP t k0).1 = t.nm k0 from rfl, Tpl.nm_eq hk0]; exact hf.2.2.2.1)
      obtain ⟨c, hc1, hc2⟩ := recV ht hk0
      have hat := Tpl.at hk0
      have hkd := fun S => ok_kind (m := m) (t.kd k0) (by rw [Tpl.kd_eq hk0]; exact hf.1) S (by omega)
      have hmo := ht.mo1 hk0
      obtain ⟨nm, hnm⟩ : ∃ x, (recP t k0).1 = x := ⟨_, rfl⟩
      obtain ⟨va, hva⟩ : ∃ x, (recP t k0).2 = x := ⟨_, rfl⟩
      have hnm' : t.nm k0 = nm := hnm
      rw [hnm] at hlt
      rw [hva] at hc1
      clear he
      walk_at "ev"
      rw [rngL0, comp1_if (e := fun (k : Nat) => .int k) (g := fun (k : Nat) => .int k) (p := fun k => eqS (t.nm k) nm)]
      · have hfil : (List.range N).filter (fun k => eqS (t.nm k) nm) = [k0] := by
          have e : (fun k => eqS (t.nm k) nm) = fun k => decide (t.nm k = nm) := by funext k; rw [eqS_dec]
          rw [e]
          have e2 : List.range N = List.range k0 ++ k0 :: (List.range (N - k0 - 1)).map (k0 + 1 + ·) := by
            rw [show List.range N = List.range (k0 + 1 + (N - k0 - 1)) from by congr 1; omega, List.range_add, List.range_succ]; simp
          rw [e2, List.filter_append, List.filter_cons, if_pos (decide_eq_true hnm'), List.filter_eq_nil_iff.mpr, List.filter_eq_nil_iff.mpr]
          · rfl
          · intro j hj hc
            obtain ⟨i, hi, rfl⟩ := List.mem_map.mp hj
            have hi := List.mem_range.mp hi
            have := recP_inj ht (j := k0 + 1 + i) (k := k0) (by omega) hk0 (by rw [of_decide_eq_true hc, hnm'])
            omega
          · intro j hj hc
            have hj := List.mem_range.mp hj
            have := recP_inj ht (j := j) (k := k0) (by omega) hk0 (by rw [of_decide_eq_true hc, hnm'])
            omega
        rw [hfil, List.map_cons, List.map_nil]
        have hvlen : va.length = (t.mo k0).toNat := by rw [hc1, List.length_replicate]
        have c1 : (0 : Int) < va.length := by omega
        have c2 : (va.length : Int) ≤ t.mo k0 := by omega
        have c3 : va.length ≤ 40 := by omega
        have c4 : k0 < (vs.map eO).length := by rw [List.length_map, hvl]; exact hk0N
        have hin : ∀ x ∈ va, x ∈ signsK (t.kd k0) := fun x hx => by
          rw [hc1] at hx
          rw [List.eq_of_mem_replicate hx]; exact hc2
        clear hvlen hfil hc1 hc2
        walk_at "ev"
        rw [comp1_if (e := fun (c : Nat) => D.str [c]) (g := fun (c : Nat) => D.str [c]) (p := fun x => !decide (x ∈ signsK (t.kd k0)))]
        · rw [List.filter_eq_nil_iff.mpr (fun x hx => by simp [hin x hx]), List.map_nil]
          have c5 : ¬ (0 : Int) < 0 := by decide
          walk_at "ev"
          refine ⟨vs.set k0 (some va), some (eP (recP t k0)), some (.lst [.int k0]), by rw [lastN_snoc, hnm], by rw [List.map_set]; rfl, by simpa using hvl, fun k hk => ?_⟩
          · rw [List.getElem?_set]
            by_cases h : k0 = k
            · subst h
              rw [if_pos rfl, if_pos (by simpa using c4), if_pos (by simp), hva]
            · rw [if_neg h, hvs k hk]
              congr 1
              have : recP t k ∈ pre ++ [recP t k0] ↔ recP t k ∈ pre := by
                rw [List.mem_append]
                constructor
                · rintro (h1 | h1)
                  · exact h1
                  · simp at h1
                    exact absurd (recP_inj ht (by omega) hk0 (congrArg Prod.fst h1)).symm h
                · exact .inl
              simp only [this]
        · intro x hx
          walk_at "ev"
        · intro x hx _
          walk_at "ev"
        · omega
      · intro k hk
        have hkN := List.mem_range.mp hk
        have hatk := Tpl.at (t := t) (k := k) (by omega)
        clear hat
        walk_at "ev"
      · intro k hk _
        walk_at "ev"
      · simp; omega
    · rintro _ _ ⟨vs, o3, o6, rfl, rfl, hvl, hvs⟩
      obtain ⟨k1, r1, hF1⟩ := List.exists_cons_of_ne_nil (best_ne (mo := t.mo) ht.p)
      have hk1 : k1 ∈ (t.pt.best t.mo).2 := by rw [hF1]; simp
      have hlast : eqS (lastN P) [] = false := by
        rcases List.eq_nil_or_concat P with h | ⟨Q, y, h⟩
        · have := (R.mem (recP t k1)).mpr ⟨k1, hk1, rfl⟩
          rw [h] at this; cases this
        · rw [List.concat_eq_append] at h
          rw [h, lastN_snoc, eqS_dec]
          obtain ⟨k, hk, rfl⟩ := (R.mem y).mp (by rw [h]; simp)
          have hk' := hFl k hk
          refine decide_eq_false ?_
          rw [show (recP t k).1 = t.nm k from rfl, Tpl.nm_eq hk']
          exact (ht.at hk').2.2.2.1
      have hG : ∀ k ∈ t.pt.flds, isG vs k = decide (k ∈ (t.pt.best t.mo).2) := fun k hk => by
        rw [ht.fl] at hk
        have hk := List.mem_range.mp hk
        unfold isG
        rw [hvs k (by omega)]
        by_cases h : recP t k ∈ P
        · rw [if_pos h]
          obtain ⟨j, hj, e⟩ := (R.mem _).mp h
          have := recP_inj ht hk (hFl j hj) (congrArg Prod.fst e)
          subst this
          simp [hj]
        · rw [if_neg h]
          have : k ∉ (t.pt.best t.mo).2 := fun hc => h ((R.mem _).mpr ⟨k, hc, rfl⟩)
          simp [this]
      have hvS : ∀ (k : Nat) (x : Tx), vs[k]? = some (some x) → x.length = (t.mo k).toNat ∧ k < t.fs.length := fun k x hx => by
        have hkN : k < N := by
          apply Classical.byContradiction
          intro hn
          rw [List.getElem?_eq_none (by omega)] at hx
          cases hx
        rw [hvs k hkN] at hx
        by_cases h : recP t k ∈ P
        · rw [if_pos h] at hx
          cases hx
          obtain ⟨c, hc, _⟩ := recV ht (k := k) (by omega)
          rw [hc, List.length_replicate]
          exact ⟨rfl, by omega⟩
        · rw [if_neg h] at hx; cases hx
      have W : Wt (fun p : Pc => (p.2.length : Int)) t.mo vs := ⟨fun x => rfl, fun k x hx => by
        obtain ⟨h1, h2⟩ := hvS k x hx
        have := ht.mo1 h2
        show (x.length : Int) = _
        omega⟩
      obtain ⟨hg, htot⟩ := tot_best W ht.p ht.ndf hG
      have hput := fun T => ok_put (m := m) t.pt (S ++ T) vs (.loc S.length) (by omega) ht.p ht.nl ht.sz (fun k hk => by rw [ht.fl] at hk; have := List.mem_range.mp hk; omega)
      have hput1 := hput [.lst (vs.map eO)] (by rw [drf_loc]; simp [drO]) hg
      have hsh := put_short (vs := vs) (fun k x hx => by
        obtain ⟨h1, h2⟩ := hvS k x hx
        have := ht.mo1 h2
        omega) ht.p
      have hpl := put_len vs t.pt
      have hsz := ht.sz
      have hgt : n < ((t.pt.put vs).map fun p => (p.2.length : Int)).sum := by
        have : tot (fun p : Pc => (p.2.length : Int)) (t.pt.put vs) = ((t.pt.put vs).map fun p => (p.2.length : Int)).sum := rfl
        omega
      clear hput hG hvS W htot hg hvs R
      walk_at "ev"
      rw [comp0_one (e := ePc) (g := fun p => .int (p.2.length : Int))]
      · walk_at "ev"
        rw [sum_ints]
        walk_at "ev"
        exact leave_bel rfl
      · intro pc hpc
        have := hsh pc hpc
        walk_at "ev"
      · omega
  · intro f hf
    walk_at "ev"
  · omega
mutual
theorem part_sm : ∀ p : Part, p.e.sm = true
  | .fld _ _ _ => rfl
  | .row a s l b ps => by rw [Part.e, D.sm]; cases l <;> simp [sms, D.sm, eO, parts_sm ps]
  | .eit ps => by rw [Part.e, D.sm]; simp [sms, D.sm, parts_sm ps]
theorem parts_sm : ∀ ps : List Part, sms (eps ps) = true
  | [] => rfl
  | p :: ps => by rw [eps, sms, part_sm p, parts_sm ps]; rfl
end
mutual
theorem part_cnt : ∀ p : Part, p.e.cnt ≤ 7 * p.size
  | .fld _ _ _ => by simp [Part.e, D.cnt, cnts, Part.size]
  | .row a s l b ps => by
    have := parts_cnt ps
    rw [Part.e, D.cnt, Part.size]; cases l <;> simp [cnts, D.cnt, eO] <;> omega
  | .eit ps => by
    have := parts_cnt ps
    rw [Part.e, D.cnt, Part.size]; simp [cnts, D.cnt]; omega
theorem parts_cnt : ∀ ps : List Part, cnts (eps ps) ≤ 7 * sizes ps
  | [] => by simp [eps, cnts, sizes]
  | p :: ps => by
    have h1 := part_cnt p
    have h2 := parts_cnt ps
    rw [eps, cnts, sizes]; omega
end
theorem flds_sm : ∀ fs : List Fld, sms (fs.map Fld.e) = true
  | [] => rfl
  | f :: fs => by rw [List.map_cons, sms, flds_sm fs]; rfl
theorem flds_cnt : ∀ fs : List Fld, cnts (fs.map Fld.e) = 4 * fs.length
  | [] => rfl
  | f :: fs => by
    rw [List.map_cons, cnts, flds_cnt fs, List.length_cons]
    have : f.e.cnt = 4 := by simp [Fld.e, D.cnt, cnts]
    omega
theorem tpl_sm (t : Tpl) : t.e.sm = true := by
  show (sms (t.fs.map Fld.e) && (t.pt.e.sm && (true && true))) = true
  rw [flds_sm, part_sm]; rfl
theorem tpl_cnt {t : Tpl} (ht : t.ok) : t.e.cnt ≤ 10000 := by
  have h1 := flds_cnt t.fs
  have h2 := part_cnt t.pt
  have h3 := ht.nf
  have h4 := ht.sz
  rw [tpl_e]
  simp only [D.cnt, cnts]
  omega
theorem mostO_none {t : Tpl} {k : Nat} {n : Int} (h : mostO t k n = none) : n < t.L k 1 := by
  unfold mostO at h
  rw [List.getLast?_eq_none_iff] at h
  unfold mostL at h
  have := List.filter_eq_nil_iff.mp h 0 (List.mem_range.mpr (by decide))
  simp at this
  omega
theorem last_max : ∀ {l : List Nat} {j : Nat}, l.Pairwise (· < ·) → l.getLast? = some j → ∀ i ∈ l, i ≤ j := by
  intro l j hp hj i hi
  rw [List.getLast?_eq_some_iff] at hj
  obtain ⟨ys, rfl⟩ := hj
  rw [List.pairwise_append] at hp
  rcases List.mem_append.mp hi with h | h
  · exact Nat.le_of_lt (hp.2.2 i h j (by simp))
  · simp at h; omega
theorem mostO_some {t : Tpl} {k : Nat} {n : Int} {j : Nat} (h : mostO t k n = some j) : j < 40 ∧ t.L k (1 + j) ≤ n ∧ (j = 39 ∨ n < t.L k (1 + (j + 1 : Nat))) := by
  unfold mostO at h
  have hm := List.mem_of_getLast? h
  unfold mostL at hm
  obtain ⟨h1, h2⟩ := List.mem_filter.mp hm
  have h1 := List.mem_range.mp h1
  refine ⟨h1, of_decide_eq_true h2, ?_⟩
  apply Classical.byContradiction
  intro hc
  have hp : (mostL t k n).Pairwise (· < ·) := List.Pairwise.filter _ List.pairwise_lt_range
  have := last_max hp h (j + 1) (List.mem_filter.mpr ⟨List.mem_range.mpr (by omega), decide_eq_true (by omega)⟩)
  omega
theorem L_self (t : Tpl) {k : Nat} (hk : k < t.fs.length) : t.L k (t.mo k) = (t.pt.best t.mo).1 := by
  unfold Tpl.L
  have : (t.wm k (t.mo k)).mo = t.mo := by
    funext j
    rw [wm_mo t hk]
    split
    · rename_i h; rw [h]
    · rfl
  rw [this]
theorem eN_sm (o : Option Nat) : (eN o).sm = true ∧ (eN o).cnt = 1 := by cases o <;> simp [eN, D.sm, D.cnt]
theorem ok_asked {m : Nat} (t : Tpl) (ht : t.ok) (S : Sto) (hm : t.pt.dp + 9 ≤ m) (d : D) (hd : RowsFor t d) {k : Nat} (hk : k < t.fs.length) (n : Int) : callF G tab m "_law_asked" [t.e, d, .int k, .int n] S = .ok (.bl true) S := by
  obtain ⟨m, rfl⟩ := lev (a := 8) (m := m) (by omega)
  have h1 := ok_most (m := m) t ht S (by omega) d hd hk n
  have h2 := refused0 (m := m) t ht S (by omega) hk n
  have h3 := ok_same (m := m) (.tup [.str sTold, eN (mostO t k n)]) S (by omega) (by simp [D.sm, sms, (eN_sm _).1]) (by simp [D.cnt, cnts, (eN_sm _).2])
  have hat := Tpl.at hk
  have hmo := ht.mo1 hk
  rw [u__law_asked]
  cases ho : mostO t k n with
  | none =>
    have hlt : n < (t.pt.best t.mo).1 := by
      have e1 := mostO_none ho
      have e2 := L_mono t hk hmo.1
      rw [L_self t hk] at e2
      omega
    have h4 := ok_verdict_of (m := m) t ht S (by omega) n
    have h5 := ok_breaks (m := m) t ht S (by omega) n hlt
    rw [eV, if_pos hlt] at h4
    rw [ho, eN] at h1 h2 h3
    rw [tpl_e] at h1 h2 h4 h5 ⊢
    clear hlt
    walk_at "ev"
  | some j =>
    obtain ⟨hj, hL, hL2⟩ := mostO_some ho
    rw [ho, eN] at h1 h2 h3
    have hw := wm_ok ht hk (x := 1 + j) (by omega) (by omega)
    have h4 := refused1 (m := m) t ht S (by omega) hk (1 + j) (by omega) (by omega)
    have h5 := ok_changed (m := m) t S (by omega) ht.nf hk (1 + j)
    have h6 := ok_same (m := m) (.tup [.str sTold, (t.wm k (1 + j)).e]) S (by omega) (by simp [D.sm, sms, tpl_sm]) (by have := tpl_cnt hw; simp [D.cnt, cnts]; omega)
    have h7 := ok_verdict_of (m := m) (t.wm k (1 + j)) hw S (by show t.pt.dp + 7 ≤ m; omega) n
    rw [eV, if_neg (by show ¬ n < t.L k (1 + j); omega)] at h7
    have h8 := ok_same (m := m) (.tup [.str [107, 101, 112, 116]]) S (by omega) rfl (by simp [D.cnt, cnts])
    by_cases hj39 : j = 39
    · have h40 : ((1 + (j : Int)) = 40) = True := eq_true (by omega)
      clear hL hL2 hw hj39
      rw [tpl_e] at h1 h2 h4 h5 ⊢
      walk_at "ev"
    · have hlt : n < t.L k (1 + (j + 1 : Nat)) := hL2.resolve_left hj39
      have hw2 := wm_ok ht hk (x := 1 + (j : Int) + 1) (by omega) (by omega)
      have hlt2 : n < ((t.wm k (1 + (j : Int) + 1)).pt.best (t.wm k (1 + (j : Int) + 1)).mo).1 := by
        have e : (1 + (j + 1 : Nat) : Int) = 1 + (j : Int) + 1 := by omega
        rw [e] at hlt
        exact hlt
      have h9 := ok_changed (m := m) t S (by omega) ht.nf hk (1 + (j : Int) + 1)
      have h10 := ok_verdict_of (m := m) (t.wm k (1 + (j : Int) + 1)) hw2 S (by show t.pt.dp + 7 ≤ m; omega) n
      have h11 := ok_breaks (m := m) (t.wm k (1 + (j : Int) + 1)) hw2 S (by show t.pt.dp + 4 ≤ m; omega) n hlt2
      rw [eV, if_pos hlt2] at h10
      have hne : ¬ (1 + (j : Int)) = 40 := by omega
      clear hL hL2 hw hw2 hlt hlt2
      rw [tpl_e] at h1 h2 h4 h5 h9 ⊢
      walk_at "ev"
end K87
end Ev
/-! P87j: the law's draws. -/
namespace Ev
namespace K87
open PySem L2
local macro_rules | `(tactic| walk_at "ev") => `(tactic| simp -implicitDefEqProofs (disch := first | assumption | omega | exact Nat.zero_le _ | (simp only [List.length_nil, List.length_cons, List.length_append, List.length_map, List.length_replicate, List.length_reverse, List.length_range]; omega)) only [varO_s, consO_s, setL_0, setL_s, asg_one, asg_tup, asgs_nil, asgsK_s, asgs_cons, setK_s, setAll_nil, setAll_cons, wipeN_0, wipeN_s, wipe_nil, wipe_cons, mkTup_ok, mkLst_ok, mkDic_ok, mkLive_l, negD_i, notD_b, revD_l, kwA_s, kwD_s, addA_ok, gixO_s, asI_i, rng1D_ok, rng2D_ok, putO_s, raiO_ok, nxO_s, ifE_t, ifE_f, ifS_t, ifS_f, andE_t, andE_f, orE_t, orE_f, kTup_k, kTup_x, kLst_k, kLst_x, kLive_k, kLive_x, kDic_k, kDic_x, kBin2_k, kBin2_x, kBin1_k, kBin1_x, kNeg_k, kNeg_x, kNot_k, kNot_x, kCmp2_k, kCmp2_x, kCmp1_k, kCmp1_x, chnO_t, chnO_f, kChn2_k, kChn2_x, kChn1_k, kChn1_x, kIf_k, kIf_x, kAnd_k, kAnd_x, kOr_k, kOr_x, kIdx2_k, kIdx2_x, kIdx1_k, kIdx1_x, kSlc3_k, kSlc3_x, kSlc2_k, kSlc2_x, kSlc1_k, kSlc1_x, kRev_k, kRev_x, kCal_k, kCal_x, kKw_k, kKw_x, kIsi_k, kIsi_x, kBlt_k, kBlt_x, kMth2_k, kMth2_x, mthG_t, kMth1_k, kMth1_x, kGix_k, kGix_x, kEs2_k, kEs2_x, kEs1_k, kEs1_x, kAsI_k, kAsI_x, kSeq_k, kSeq_x, kRng1_k, kRng1_x, kRng2b_k, kRng2b_x, kRng2a_k, kRng2a_x, kEnu2_k, kEnu2_x, kEnu1_k, kEnu1_x, kZip4_k, kZip4_x, kZip3_k, kZip3_x, kZip2_k, kZip2_x, kZip1_k, kZip1_x, kRvs2_k, kRvs2_x, kRvs1_k, kRvs1_x, addK_k, ifC_t, ifC_f, ifCK_k, turn0_s, turn1_s, turnS_s, kLstR_k, kComp0_k, kComp0_x, kComp1_k, kComp1_x, sExpr_k, sExpr_x, sSet_k, sSet_x, sPar_k, sPar_x, sPut3_k, sPut3_x, sPut2_k, sPut2_x, sPut1_k, sPut1_x, sIf_k, sIf_x, sFor_k, sFor_x, sRet_k, sRet_x, sRai_k, sRai_x, sqB_nx, sqB_rt, sqB_bk, sqB_ct, sqB_x, tryK_nx, tryK_rt, s_try, e_var, e_con, e_glb, e_tup, e_lst, e_dsp, e_live, e_bin, e_neg, e_nt, e_cmp, e_chn, e_and, e_or, e_ite, e_idx, e_slc, e_rev, e_cal, e_calk, e_isi, e_blt, e_mth, e_comp0, e_comp1, e_gix, es_nil, es_cons, ep_no, ep_so, ea_1, ea_2, eo_1, eo_2, ei_seq, ei_rng1, ei_rng2, ei_enu, ei_zip, ei_rvs, s_expr, s_set, s_par, s_put, s_ifs, s_whl, s_for, s_ret, s_retn, s_brk, s_cnt, s_pas, s_rai, b_nil, b_cons, cx_cal, cx_glb, cx_gdc, cx_kws, cx_fld, cx_sub, cx_fuel, leave_rt, leave_nx, leave_exc, drf_tup, drf_lst, drf_ro, drfq_str, drfq_int, drfq_bl, drfq_non, drf_dic, drf_loc, drO_l, bin_add_i, bin_add_s, bin_add_t, bin_add_l, addO_ok, bin_sub_i, bin_mul_i, bin_mul_s, bin_fdiv_i, bin_mod_i, idx_r, idxR_t, idxR_l, idxR_r, idxR_d, at_n, at_0, at_1, at_2, at_3, at_4, at_5, at_m1, len_l, len_t, len_r, len_s, len_loc, lenR_l, seqD_l, seqD_t, seqD_r, seqD_loc, seqR_l, tup_q, lst_q, srcD_l, srcD_t, srcD_r, srcD_s, srcQ_l, srcQ_t, srcD_loc, srcO_l, cmp_eq, cmp_ne, cmp_isN, cmp_isnN, isNon_n, isNon_i, isNon_s, isNon_t, isNon_l, isNon_o, cmp_in, cmp_nin, cmp_lt_i, cmp_le_i, cmp_gt_i, cmp_ge_i, cmp_le_s, cmp_lt_s, eq_i, eq_s, eq_b, eq_si, eq_is, tru_b, tru_i, tru_n, isi_t_tuple, isi_t_list, isi_t_str, isi_t_int, isi_t_bool, isi_l_tuple, isi_l_list, isi_l_str, isi_l_int, isi_l_bool, isi_s_tuple, isi_s_list, isi_s_str, isi_s_int, isi_s_bool, isi_i_tuple, isi_i_list, isi_i_str, isi_i_int, isi_i_bool, isi_b_tuple, isi_b_list, isi_b_str, isi_b_int, isi_b_bool, isiq_n, isL_l, ty_append, ty_extend, ty_pop, ty_index, ty_join, m_append, appO_ok, m_extend, extO_ok, m_pop, popO_ok, st_get0, st_get1, st_get2, st_get3, st_set0, st_set1, st_set2, st_app, st_len, fin_f, fin_tk, fin_tx, Res.nox_ok, Res.nox_exc, ofO_some, ofO_none, reo, List.getElem?_cons_zero, List.getElem?_cons_succ, List.length_cons, List.length_nil, List.cons_append, List.nil_append, Option.map_some, Option.map_none, List.getLast?_cons_cons, List.getLast?_singleton, decide_true, decide_false, Bool.not_true, Bool.not_false, Nat.zero_add, Nat.reduceAdd, Nat.reduceLeDiff, Nat.reduceLT, Int.reduceNeg, List.length_map, if_true, if_false, goes_nx, goes_ct, ends_nx, ends_ct, ends_rt, reduceCtorEq, false_and, and_false, and_true, true_and, Bool.and_true, Bool.and_false, eqS_nn, eqS_nc, eqS_cn, eqS_cc, eqS_self, Nat.reduceBEq, Bool.true_and, Bool.false_and, beq_self_eq_true, slc_r, slcR_t, slcR_l, slcR_r, slcR_s, cut_hi, cut_lo, toNat_s, srt_r, in_tup, m_index, ixO_s, Int.reduceToNat, Int.toNat_natCast, Int.reduceSub, Int.reduceAdd, List.take_succ_cons, List.take_zero, List.drop_succ_cons, List.drop_zero, Int.reduceLT, Int.reduceLE, cast_0, cast_1, Int.cast_ofNat_Int, bin_add_loc, addR_l, eq_self, isNon_b, isNon_r, isNon_d, put_loc, putR_0, putR_n, in_str1, Int.reduceEq, List.set_cons_zero, List.set_cons_succ, int1_i, min2_i, max2_i, okP_ok, cut_m1, Nat.reduceSub, Nat.add_one_sub_one, evOn_s, gd_nil, gdS_nil, fld_e, row_e, eit_e, eO_none, eO_some, leave_rt, leave_nx, leave_exc, *])
theorem ok_jar {m : Nat} (ns : List Int) (hn : ns.length ≤ 63) (S : Sto) (hm : 1 ≤ m) : ∃ cs, Cells cs ∧ callF G tab m "_law_jar" [.ro (ns.map D.int)] S = .ok (.loc S.length) (S ++ [Jb 0 cs]) := by
  obtain ⟨m, rfl⟩ := lev hm
  rw [u__law_jar]
  have hcs : (ns.take 40).length ≤ 40 := by rw [List.length_take]; omega
  obtain ⟨v, hv⟩ : ∃ v, ns.take 40 = v := ⟨_, rfl⟩
  rw [hv] at hcs
  have key : ∀ tot : Int, 0 ≤ tot → tot < 1048576 → Cells (v.map (· % 1000289) ++ [tot]) := fun tot h1 h2 => ⟨by simp, fun c hc => by
    rcases List.mem_append.mp hc with hc | hc
    · obtain ⟨x, _, rfl⟩ := List.mem_map.mp hc
      have h1 := Int.emod_nonneg x (show (1000289 : Int) ≠ 0 by decide)
      have h2 := Int.emod_lt_of_pos x (show (0 : Int) < 1000289 by decide)
      omega
    · simp at hc; subst hc; exact ⟨h1, h2⟩, by simp; omega⟩
  have goal : ∃ tot : Int, 0 ≤ tot ∧ tot < 1048576 ∧ leave .raw S (evB (G.cx (callF G tab m)) (.cons (.set (.one 1) (.comp [3] (.one 3) (.seq (.slc (.var 0) .no (.so (.con (.int 40))))) .no (.bin .Mod (.blt .int1 (.cons (.var 3) .nil)) (.con (.int 1000289))))) (.cons (.set (.one 2) (.bin .Add (.con (.int 43)) (.bin .Mod (.blt .len (.cons (.var 0) .nil)) (.con (.int 67))))) (.cons (.for_ (.one 3) (.seq (.var 1)) (.cons (.set (.one 2) (.bin .Mod (.bin .Add (.bin .Mult (.var 2) (.con (.int 37))) (.var 3)) (.con (.int 999683)))) .nil)) (.cons (.ret (.live (.lst (.cons (.con (.int 0)) (.cons (.bin .Add (.var 1) (.lst (.cons (.var 2) .nil))) .nil))))) .nil)))) [some (.ro (ns.map D.int)), none, none, none] S) = .ok (.loc S.length) (S ++ [Jb 0 (v.map (· % 1000289) ++ [tot])]) := by
    have hro : (ns.map D.int).take 40 = v.map D.int := by rw [← List.map_take, hv]
    walk_at "ev"
    rw [comp0_one (e := D.int) (g := fun c => .int (c % 1000289))]
    · have e2 : (v.map fun c => D.int (c % 1000289)) = (v.map (· % 1000289)).map D.int := by rw [List.map_map]; rfl
      rw [e2]
      obtain ⟨w, hw⟩ : ∃ w, v.map (· % 1000289) = w := ⟨_, rfl⟩
      have hwl : w.length ≤ 40 := by rw [← hw, List.length_map]; exact hcs
      rw [hw]
      obtain ⟨t0, ht0⟩ : ∃ t0, (43 : Int) + (ns.length : Int) % 67 = t0 := ⟨_, rfl⟩
      have ht1 : 0 ≤ t0 ∧ t0 < 1048576 := by omega
      clear e2 hw hro hv
      walk_at "ev"
      suffices hs : ∃ r : SR, (∃ (tot : Int) (o : Option D), 0 ≤ tot ∧ tot < 1048576 ∧ r = .nx [some (.ro (ns.map D.int)), some (.lst (w.map D.int)), some (.int tot), o] S) ∧ forB (G.cx (callF G tab m)) (.one 3) (.cons (.set (.one 2) (.bin .Mod (.bin .Add (.bin .Mult (.var 2) (.con (.int 37))) (.var 3)) (.con (.int 999683)))) .nil) (w.map D.int, []) [some (.ro (ns.map D.int)), some (.lst (w.map D.int)), some (.int t0), none] S = r by
        obtain ⟨_, ⟨tot, o, h1, h2, rfl⟩, e⟩ := hs
        refine ⟨tot, h1, h2, ?_⟩
        rw [e]
        walk_at "ev"
        unfold Jb
        simp
      refine use_for (e := D.int) (P := fun r' => ∃ r : SR, (∃ (tot : Int) (o : Option D), 0 ≤ tot ∧ tot < 1048576 ∧ r = .nx [some (.ro (ns.map D.int)), some (.lst (w.map D.int)), some (.int tot), o] S) ∧ r' = r) (fun pre ls S' => ∃ (tot : Int) (o : Option D), 0 ≤ tot ∧ tot < 1048576 ∧ ls = [some (.ro (ns.map D.int)), some (.lst (w.map D.int)), some (.int tot), o] ∧ S' = S) ⟨t0, none, ht1.1, ht1.2, rfl, rfl⟩ ?_ ?_
      · rintro pre c post _ _ he ⟨tot, o, h1, h2, rfl, rfl⟩
        have h3 := Int.emod_nonneg (tot * 37 + c) (show (999683 : Int) ≠ 0 by decide)
        have h4 := Int.emod_lt_of_pos (tot * 37 + c) (show (0 : Int) < 999683 by decide)
        obtain ⟨t2, ht2⟩ : ∃ t2, (tot * 37 + c) % 999683 = t2 := ⟨_, rfl⟩
        rw [ht2] at h3 h4
        clear he ht0
        walk_at "ev"
        exact ⟨t2, _, h3, by omega, rfl⟩
      · rintro _ _ ⟨tot, o, h1, h2, rfl, rfl⟩
        exact ⟨_, ⟨tot, o, h1, h2, rfl⟩, rfl⟩
    · intro c hcm
      walk_at "ev"
    · omega
  obtain ⟨tot, h1, h2, e⟩ := goal
  exact ⟨_, key tot h1 h2, e⟩
/-- a draw -/
def drawV (cs : List Int) (t many : Int) : Int := (pick cs (t + 1) * (5 * (t + 1) + 2207) + pick cs (3 * (t + 1) + 1) * 2011 + (t + 1) * (t + 1) * 38011) % 2147483423 / 15 % many
theorem drawV_lo {cs : List Int} {t many : Int} (h : 0 < many) : 0 ≤ drawV cs t many ∧ drawV cs t many < many := ⟨Int.emod_nonneg _ (by omega), Int.emod_lt_of_pos _ h⟩
theorem ok_draw {m : Nat} {cs : List Int} (hc : Cells cs) (t many : Int) (T : Sto) (hm : 1 ≤ m) (ht : 0 ≤ t ∧ t < 1152921504606846976) (h0 : 0 < many) : callF G tab m "_law_draw" [.loc 0, .int many] (Jb t cs :: T) = .ok (.int (drawV cs t many)) (Jb (t + 1) cs :: T) := by
  obtain ⟨m, rfl⟩ := lev hm
  have h1 := pick_at hc (t + 1)
  have h2 := pick_at hc (3 * (t + 1) + 1)
  have h3 := pick_lo hc (t + 1)
  have h4 := pick_lo hc (3 * (t + 1) + 1)
  have h5 : (0 : Int) < cs.length := by have := List.length_pos_iff.mpr hc.ne; omega
  rw [u__law_draw]
  unfold Jb
  walk_at "ev"
  rfl
def texts : List Tx := [[], [59, 32], [45, 45], [32], [], [58], [40, 32], [120], [], [44, 32], [101, 116, 99]]
def textV (cs : List Int) (t : Int) : Tx := (texts[(drawV cs t 11).toNat]?).getD []
theorem textV_len (cs : List Int) (t : Int) : (textV cs t).length ≤ 12 := by
  unfold textV
  cases h : texts[(drawV cs t 11).toNat]? with
  | none => simp
  | some x => exact (show ∀ x ∈ texts, x.length ≤ 12 by decide) x (List.mem_of_getElem? h)
theorem ok_text {m : Nat} {cs : List Int} (hc : Cells cs) (t : Int) (T : Sto) (hm : 2 ≤ m) (ht : 0 ≤ t ∧ t < 1152921504606846976) : callF G tab m "_law_text" [.loc 0] (Jb t cs :: T) = .ok (.str (textV cs t)) (Jb (t + 1) cs :: T) := by
  obtain ⟨m, rfl⟩ := lev hm
  have h1 := ok_draw (m := m) hc t 11 T (by omega) ht (by decide)
  have h2 := drawV_lo (cs := cs) (t := t) (many := 11) (by decide)
  obtain ⟨k, hk0⟩ : ∃ k : Nat, drawV cs t 11 = k := ⟨(drawV cs t 11).toNat, by omega⟩
  have hx : textV cs t = (texts[k]?).getD [] := by unfold textV; rw [hk0]; rfl
  rw [hk0] at h1 h2
  have hk : k < texts.length := by show k < 11; omega
  rw [hx, List.getElem?_eq_getElem hk]
  have h4 : (texts.map D.str)[k]? = some (.str texts[k]) := by rw [List.getElem?_map, List.getElem?_eq_getElem hk]; rfl
  rw [u__law_text]
  have h5 : [D.str [], .str [59, 32], .str [45, 45], .str [32], .str [], .str [58], .str [40, 32], .str [120], .str [], .str [44, 32], .str [101, 116, 99]] = texts.map D.str := rfl
  have h6 : texts.length ≤ 16777216 := by decide
  clear h2 hx hk0
  walk_at "ev"
  rfl
/-- a text, or another thing -/
def optV (cs : List Int) (b : Bool) (t : Int) : Tx := if b = true then textV cs t else []
def optO (cs : List Int) (b : Bool) (t : Int) : Option Tx := if b = true then some (textV cs t) else none
def optT (b : Bool) (t : Int) : Int := if b = true then t + 1 else t
theorem optV_len (cs : List Int) (b : Bool) (t : Int) : (optV cs b t).length ≤ 12 := by
  unfold optV; split
  · exact textV_len cs t
  · simp
theorem optO_len (cs : List Int) (b : Bool) (t : Int) (s : Tx) (hs : s.length ≤ 12) : ((optO cs b t).getD s).length ≤ 12 := by
  unfold optO; split
  · exact textV_len cs t
  · exact hs
theorem optT_lo (b : Bool) (t : Int) : t ≤ optT b t ∧ optT b t ≤ t + 1 := by unfold optT; split <;> omega
theorem if_text {m : Nat} {cs : List Int} (hc : Cells cs) (hm : 2 ≤ m) (b : Bool) (t : Int) (T : Sto) (o : Loc) (ht : 0 ≤ t ∧ t < 1152921504606846976) : ifE (G.cx (callF G tab m)) (.cal "_law_text" (.cons (.var 0) .nil)) (.con (.str [])) false (some (.loc 0) :: o) (Jb t cs :: T) (.bl b) = .ok (.str (optV cs b t)) (Jb (optT b t) cs :: T) := by
  have h1 := ok_text (m := m) hc t T hm ht
  cases b <;> unfold optV optT <;> walk_at "ev" <;> rfl
theorem if_textN {m : Nat} {cs : List Int} (hc : Cells cs) (hm : 2 ≤ m) (b : Bool) (t : Int) (T : Sto) (o : Loc) (ht : 0 ≤ t ∧ t < 1152921504606846976) : ifE (G.cx (callF G tab m)) (.cal "_law_text" (.cons (.var 0) .nil)) (.con .non) false (some (.loc 0) :: o) (Jb t cs :: T) (.bl b) = .ok (eO (optO cs b t)) (Jb (optT b t) cs :: T) := by
  have h1 := ok_text (m := m) hc t T hm ht
  cases b <;> unfold optO optT <;> walk_at "ev" <;> rfl
end K87
end Ev
/-! P87k: the law's drawn parts. -/
namespace Ev
namespace K87
open PySem L2
local macro_rules | `(tactic| walk_at "ev") => `(tactic| simp -implicitDefEqProofs (disch := first | assumption | omega | exact Nat.zero_le _ | (simp only [List.length_nil, List.length_cons, List.length_append, List.length_map, List.length_replicate, List.length_reverse, List.length_range]; omega)) only [varO_s, consO_s, setL_0, setL_s, asg_one, asg_tup, asgs_nil, asgsK_s, asgs_cons, setK_s, setAll_nil, setAll_cons, wipeN_0, wipeN_s, wipe_nil, wipe_cons, mkTup_ok, mkLst_ok, mkDic_ok, mkLive_l, negD_i, notD_b, revD_l, kwA_s, kwD_s, addA_ok, gixO_s, asI_i, rng1D_ok, rng2D_ok, putO_s, raiO_ok, nxO_s, ifE_t, ifE_f, ifS_t, ifS_f, andE_t, andE_f, orE_t, orE_f, kTup_k, kTup_x, kLst_k, kLst_x, kLive_k, kLive_x, kDic_k, kDic_x, kBin2_k, kBin2_x, kBin1_k, kBin1_x, kNeg_k, kNeg_x, kNot_k, kNot_x, kCmp2_k, kCmp2_x, kCmp1_k, kCmp1_x, chnO_t, chnO_f, kChn2_k, kChn2_x, kChn1_k, kChn1_x, kIf_k, kIf_x, kAnd_k, kAnd_x, kOr_k, kOr_x, kIdx2_k, kIdx2_x, kIdx1_k, kIdx1_x, kSlc3_k, kSlc3_x, kSlc2_k, kSlc2_x, kSlc1_k, kSlc1_x, kRev_k, kRev_x, kCal_k, kCal_x, kKw_k, kKw_x, kIsi_k, kIsi_x, kBlt_k, kBlt_x, kMth2_k, kMth2_x, mthG_t, kMth1_k, kMth1_x, kGix_k, kGix_x, kEs2_k, kEs2_x, kEs1_k, kEs1_x, kAsI_k, kAsI_x, kSeq_k, kSeq_x, kRng1_k, kRng1_x, kRng2b_k, kRng2b_x, kRng2a_k, kRng2a_x, kEnu2_k, kEnu2_x, kEnu1_k, kEnu1_x, kZip4_k, kZip4_x, kZip3_k, kZip3_x, kZip2_k, kZip2_x, kZip1_k, kZip1_x, kRvs2_k, kRvs2_x, kRvs1_k, kRvs1_x, addK_k, ifC_t, ifC_f, ifCK_k, turn0_s, turn1_s, turnS_s, kLstR_k, kComp0_k, kComp0_x, kComp1_k, kComp1_x, sExpr_k, sExpr_x, sSet_k, sSet_x, sPar_k, sPar_x, sPut3_k, sPut3_x, sPut2_k, sPut2_x, sPut1_k, sPut1_x, sIf_k, sIf_x, sFor_k, sFor_x, sRet_k, sRet_x, sRai_k, sRai_x, sqB_nx, sqB_rt, sqB_bk, sqB_ct, sqB_x, tryK_nx, tryK_rt, s_try, e_var, e_con, e_glb, e_tup, e_lst, e_dsp, e_live, e_bin, e_neg, e_nt, e_cmp, e_chn, e_and, e_or, e_ite, e_idx, e_slc, e_rev, e_cal, e_calk, e_isi, e_blt, e_mth, e_comp0, e_comp1, e_gix, es_nil, es_cons, ep_no, ep_so, ea_1, ea_2, eo_1, eo_2, ei_seq, ei_rng1, ei_rng2, ei_enu, ei_zip, ei_rvs, s_expr, s_set, s_par, s_put, s_ifs, s_whl, s_for, s_ret, s_retn, s_brk, s_cnt, s_pas, s_rai, b_nil, b_cons, cx_cal, cx_glb, cx_gdc, cx_kws, cx_fld, cx_sub, cx_fuel, leave_rt, leave_nx, leave_exc, drf_tup, drf_lst, drf_ro, drfq_str, drfq_int, drfq_bl, drfq_non, drf_dic, drf_loc, drO_l, bin_add_i, bin_add_s, bin_add_t, bin_add_l, addO_ok, bin_sub_i, bin_mul_i, bin_mul_s, bin_fdiv_i, bin_mod_i, idx_r, idxR_t, idxR_l, idxR_r, idxR_d, at_n, at_0, at_1, at_2, at_3, at_4, at_5, at_m1, len_l, len_t, len_r, len_s, len_loc, lenR_l, seqD_l, seqD_t, seqD_r, seqD_loc, seqR_l, tup_q, lst_q, srcD_l, srcD_t, srcD_r, srcD_s, srcQ_l, srcQ_t, srcD_loc, srcO_l, cmp_eq, cmp_ne, cmp_isN, cmp_isnN, isNon_n, isNon_i, isNon_s, isNon_t, isNon_l, isNon_o, cmp_in, cmp_nin, cmp_lt_i, cmp_le_i, cmp_gt_i, cmp_ge_i, cmp_le_s, cmp_lt_s, eq_i, eq_s, eq_b, eq_si, eq_is, tru_b, tru_i, tru_n, isi_t_tuple, isi_t_list, isi_t_str, isi_t_int, isi_t_bool, isi_l_tuple, isi_l_list, isi_l_str, isi_l_int, isi_l_bool, isi_s_tuple, isi_s_list, isi_s_str, isi_s_int, isi_s_bool, isi_i_tuple, isi_i_list, isi_i_str, isi_i_int, isi_i_bool, isi_b_tuple, isi_b_list, isi_b_str, isi_b_int, isi_b_bool, isiq_n, isL_l, ty_append, ty_extend, ty_pop, ty_index, ty_join, m_append, appO_ok, m_extend, extO_ok, m_pop, popO_ok, st_get0, st_get1, st_get2, st_get3, st_set0, st_set1, st_set2, st_app, st_len, fin_f, fin_tk, fin_tx, Res.nox_ok, Res.nox_exc, ofO_some, ofO_none, reo, List.getElem?_cons_zero, List.getElem?_cons_succ, List.length_cons, List.length_nil, List.cons_append, List.nil_append, Option.map_some, Option.map_none, List.getLast?_cons_cons, List.getLast?_singleton, decide_true, decide_false, Bool.not_true, Bool.not_false, Nat.zero_add, Nat.reduceAdd, Nat.reduceLeDiff, Nat.reduceLT, Int.reduceNeg, List.length_map, if_true, if_false, goes_nx, goes_ct, ends_nx, ends_ct, ends_rt, reduceCtorEq, false_and, and_false, and_true, true_and, Bool.and_true, Bool.and_false, eqS_nn, eqS_nc, eqS_cn, eqS_cc, eqS_self, Nat.reduceBEq, Bool.true_and, Bool.false_and, beq_self_eq_true, slc_r, slcR_t, slcR_l, slcR_r, slcR_s, cut_hi, cut_lo, toNat_s, srt_r, in_tup, m_index, ixO_s, Int.reduceToNat, Int.toNat_natCast, Int.reduceSub, Int.reduceAdd, List.take_succ_cons, List.take_zero, List.drop_succ_cons, List.drop_zero, Int.reduceLT, Int.reduceLE, cast_0, cast_1, Int.cast_ofNat_Int, bin_add_loc, addR_l, eq_self, isNon_b, isNon_r, isNon_d, put_loc, putR_0, putR_n, in_str1, Int.reduceEq, List.set_cons_zero, List.set_cons_succ, int1_i, min2_i, max2_i, okP_ok, cut_m1, Nat.reduceSub, Nat.add_one_sub_one, evOn_s, gd_nil, gdS_nil, fld_e, row_e, eit_e, eO_none, eO_some, leave_rt, leave_nx, leave_exc, *])
structure Drawn (cs : List Int) (n first cnt deep : Nat) (t t' : Int) (p : Part) : Prop where
  lo : t ≤ t'
  hi : t' ≤ t + ((20 * cnt * (deep + 1) : Nat) : Int)
  ok : p.ok n
  fl : p.flds = List.range' first cnt
  dp : p.dp ≤ deep
  sz : p.size ≤ cnt * (deep + 1)
theorem ok_part {cs : List Int} (hc : Cells cs) (n : Nat) (hn : n ≤ 24) : ∀ (deep : Nat) {m : Nat} (first behind : Nat) (t : Int) (T : Sto), deep + 3 ≤ m → deep ≤ 5 → first < behind → behind ≤ n → (deep = 0 → behind = first + 1) → 0 ≤ t → t + ((20 * (behind - first) * (deep + 1) : Nat) : Int) ≤ 1000000000000000000 →
    ∃ p t', Drawn cs n first (behind - first) deep t t' p ∧ callF G tab m "_law_part" [.loc 0, .int first, .int behind, .int deep] (Jb t cs :: T) = .ok p.e (Jb t' cs :: T) := by
  intro deep
  induction deep with
  | zero =>
    intro m first behind t T hm hd hfb hbn h0 ht0 ht1
    obtain ⟨m, rfl⟩ := lev (a := 2) (m := m) (by omega)
    have hdr := fun (t : Int) (T : Sto) (many : Int) (ht : 0 ≤ t ∧ t < 1152921504606846976) (h0 : 0 < many) => ok_draw (m := m) hc t many T (by omega) ht h0
    have hif := fun (b : Bool) (t : Int) (T : Sto) (o : Loc) (ht : 0 ≤ t ∧ t < 1152921504606846976) => if_text (m := m) hc (by omega) b t T o ht
    rw [u__law_part]
    refine step_ifsX (P := fun r => ∃ p t', Drawn cs n first (behind - first) 0 t t' p ∧ leave _ _ r = .ok p.e (Jb t' cs :: T)) (fun b S' => S' = Jb t cs :: T ∧ b = true) ?_ ?_ ?_
    · have c1 : (((behind : Int) - first) = 1) = True := eq_true (by have := h0 rfl; omega)
      clear h0
      walk_at "ev"
      exact ⟨true, rfl, rfl⟩
    · rintro _ ⟨rfl, _⟩
      have hb := h0 rfl
      have hb1 : behind - first = 1 := by omega
      clear h0 hb
      clear hd
      have h4 := optT_lo (decide (drawV cs t 3 = 0)) (t + 1)
      obtain ⟨t2, ht2⟩ : ∃ t2, optT (decide (drawV cs t 3 = 0)) (t + 1) = t2 := ⟨_, rfl⟩
      rw [ht2] at h4
      have h5 := optT_lo (decide (drawV cs t2 3 = 0)) (t2 + 1)
      obtain ⟨t3, ht3⟩ : ∃ t3, optT (decide (drawV cs t2 3 = 0)) (t2 + 1) = t3 := ⟨_, rfl⟩
      rw [ht3] at h5
      walk_at "ev"
      refine ⟨.fld first (optV cs (decide (drawV cs t 3 = 0)) (t + 1)) (optV cs (decide (drawV cs t2 3 = 0)) (t2 + 1)), t3, ⟨by omega, by omega, ?_, rfl, by rw [Part.dp]; omega, Nat.le_refl _⟩, ?_⟩
      · rw [Part.ok]; exact ⟨by omega, optV_len _ _ _, optV_len _ _ _⟩
      · rw [fld_e]; exact leave_jar0 rfl
    · rintro _ ⟨_, h⟩; cases h
  | succ deep ih =>
    intro m first behind t T hm hd hfb hbn h0 ht0 ht1
    obtain ⟨m, rfl⟩ := lev (a := 3) (m := m) (by omega)
    have hdr := fun (t : Int) (T : Sto) (many : Int) (ht : 0 ≤ t ∧ t < 1152921504606846976) (h0 : 0 < many) => ok_draw (m := m) hc t many T (by omega) ht h0
    have htx := fun (t : Int) (T : Sto) (ht : 0 ≤ t ∧ t < 1152921504606846976) => ok_text (m := m) hc t T (by omega) ht
    have hif := fun (b : Bool) (t : Int) (T : Sto) (o : Loc) (ht : 0 ≤ t ∧ t < 1152921504606846976) => if_text (m := m) hc (by omega) b t T o ht
    have hifN := fun (b : Bool) (t : Int) (T : Sto) (o : Loc) (ht : 0 ≤ t ∧ t < 1152921504606846976) => if_textN (m := m) hc (by omega) b t T o ht
    have ihP := fun (first behind : Nat) (t : Int) (T : Sto) => ih (m := m) first behind t T (by omega) (by omega)
    clear ih
    obtain ⟨cnt, hcnt⟩ : ∃ c, behind - first = c := ⟨_, rfl⟩
    have hcnt0 : 1 ≤ cnt := by omega
    rw [u__law_part, hcnt]
    refine step_ifsX (P := fun r => ∃ p t', Drawn cs n first cnt (deep + 1) t t' p ∧ leave _ _ r = .ok p.e (Jb t' cs :: T)) (fun b S' => ∃ t0, S' = Jb t0 cs :: T ∧ t ≤ t0 ∧ t0 ≤ t + 1 ∧ (b = true → first + 1 = behind)) ?_ ?_ ?_
    · by_cases hs : first + 1 = behind
      · have c1 : (((behind : Int) - first) = 1) = True := eq_true (by omega)
        have c2 : (((deep + 1 : Nat) : Int) = 0) = False := eq_false (by omega)
        clear ihP hcnt
        walk_at "ev"
        exact ⟨_, rfl, t + 1, rfl, by omega, by omega, fun _ => trivial⟩
      · have c1 : (((behind : Int) - first) = 1) = False := eq_false (by omega)
        clear ihP hcnt
        walk_at "ev"
        exact ⟨false, rfl, t, rfl, by omega, by omega, fun h => nomatch h⟩
    · rintro _ ⟨t0, rfl, h1, h2, h3⟩
      have hb := h3 rfl
      have hb1 : cnt = 1 := by omega
      clear h3 hb ihP h0 hcnt
      have h4 := optT_lo (decide (drawV cs t0 3 = 0)) (t0 + 1)
      obtain ⟨t2, ht2⟩ : ∃ t2, optT (decide (drawV cs t0 3 = 0)) (t0 + 1) = t2 := ⟨_, rfl⟩
      rw [ht2] at h4
      have h5 := optT_lo (decide (drawV cs t2 3 = 0)) (t2 + 1)
      obtain ⟨t3, ht3⟩ : ∃ t3, optT (decide (drawV cs t2 3 = 0)) (t2 + 1) = t3 := ⟨_, rfl⟩
      rw [ht3] at h5
      walk_at "ev"
      refine ⟨.fld first (optV cs (decide (drawV cs t0 3 = 0)) (t0 + 1)) (optV cs (decide (drawV cs t2 3 = 0)) (t2 + 1)), t3, ⟨by omega, by omega, ?_, rfl, by rw [Part.dp]; omega, by rw [Part.size]; omega⟩, ?_⟩
      · rw [Part.ok]; exact ⟨by omega, optV_len _ _ _, optV_len _ _ _⟩
      · rw [fld_e]; exact leave_jar0 rfl
    · rintro _ ⟨t0, rfl, h1, h2, h3⟩
      clear h3
      have hbn' : (behind : Int) < 4611686018427387904 := by omega
      walk_at "ev"
      rw [rngL]
      refine use_for (e := fun (k : Nat) => .int ((first : Int) + 1 + k)) (P := fun r => ∃ p t', Drawn cs n first cnt (deep + 1) t t' p ∧ leave _ _ (sqB _ _ r) = .ok p.e (Jb t' cs :: T)) (fun pre ls S' => ∃ (t1 : Int) (c2 : List Nat) (o5 : Option D), ls = [some (.loc 0), some (.int first), some (.int behind), some (.int (deep + 1 : Nat)), some (.loc (T.length + 1)), o5, none, none, none] ∧ S' = Jb t1 cs :: (T ++ [.lst ((first :: c2).map eK)]) ∧ t0 ≤ t1 ∧ t1 ≤ t0 + pre.length ∧ c2.Pairwise (· < ·) ∧ (∀ x ∈ c2, first < x ∧ x ≤ first + pre.length) ∧ (deep = 0 → c2 = (List.range pre.length).map (first + 1 + ·)) ∧ c2.length ≤ pre.length) ⟨t0, [], _, rfl, rfl, by omega, by simp, .nil, by simp, fun _ => rfl, by simp⟩ ?_ ?_
      · rintro pre k post _ _ he ⟨t1, c2, o5, rfl, rfl, g1, g2, g3, g4, g5, g6⟩
        obtain ⟨hk, hkl, hpre⟩ := range_split he
        subst hk
        have hpl : pre.length ≤ 24 := by omega
        have hc2 : ((first :: c2).map eK).length ≤ 100 := by simp; omega
        have g7 : ∀ x ∈ c2 ++ [first + 1 + pre.length], first < x ∧ x ≤ first + (pre ++ [pre.length]).length := fun x hx => by
          rw [List.length_append, List.length_singleton]
          rcases List.mem_append.mp hx with hx | hx
          · have := g4 x hx; omega
          · simp at hx; omega
        have g8 : (c2 ++ [first + 1 + pre.length]).Pairwise (· < ·) := by
          rw [List.pairwise_append]
          refine ⟨g3, by simp, fun a ha b hb => ?_⟩
          simp at hb; subst hb
          have := g4 a ha; omega
        have g9 : deep = 0 → c2 ++ [first + 1 + pre.length] = (List.range (pre ++ [pre.length]).length).map (first + 1 + ·) := fun h => by
          rw [List.length_append, List.length_singleton, List.range_succ, List.map_append, ← g5 h]; rfl
        clear he hpre ihP hcnt
        clear g3 g4 g5 h0
        by_cases hd0 : deep = 0
        · have c3 : (((deep + 1 : Nat) : Int) = 1) = True := eq_true (by omega)
          have g10 := g9 hd0
          clear hd0 g9
          walk_at "ev"
          exact ⟨t1, c2 ++ [first + 1 + pre.length], _, rfl, by simp [eK], by omega, by simp; omega, g8, g7, fun _ => g10, by simp; omega⟩
        · have c3 : (((deep + 1 : Nat) : Int) = 1) = False := eq_false (by omega)
          by_cases hv : 0 < drawV cs t1 3
          · walk_at "ev"
            exact ⟨t1 + 1, c2 ++ [first + 1 + pre.length], _, rfl, by simp [eK], by omega, by simp; omega, g8, g7, fun h => (by first | exact h.elim | exact absurd h hd0), by simp; omega⟩
          · walk_at "ev"
            exact ⟨t1 + 1, c2, _, rfl, rfl, by omega, by simp; omega, (List.pairwise_append.mp g8).1, fun x hx => g7 x (by simp [hx]), fun h => (by first | exact h.elim | exact absurd h hd0), by simp; omega⟩
      · rintro _ _ ⟨t1, c2, o5, rfl, rfl, g1, g2, g3, g4, g5, g6⟩
        rw [List.length_range] at g2 g4 g5 g6
        obtain ⟨C, hCd⟩ : ∃ C, first :: (c2 ++ [behind]) = C := ⟨_, rfl⟩
        have hC : List.map eK (first :: c2) ++ [D.int ↑behind] = C.map eK := by rw [← hCd]; simp
        have gl : (List.map eK (first :: c2)).length ≤ 100 := by rw [List.length_map, List.length_cons]; omega
        have hCl : C.length = c2.length + 2 := by rw [← hCd]; simp
        have hCl2 : C.length ≤ 30 := by omega
        obtain ⟨M, hM⟩ : ∃ M, ((C.length : Int) - 1).toNat = M := ⟨_, rfl⟩
        have hMl : M + 1 = C.length := by omega
        have hCl3 : 2 ≤ C.length := by omega
        have hCasc : C.Pairwise (· < ·) := by
          rw [← hCd, List.pairwise_cons]
          refine ⟨fun x hx => ?_, ?_⟩
          · rcases List.mem_append.mp hx with hx | hx
            · exact (g4 x hx).1
            · simp at hx; omega
          · rw [List.pairwise_append]
            refine ⟨g3, by simp, fun a ha b hb => ?_⟩
            simp at hb; subst hb
            have := g4 a ha; omega
        have hC0 : C[0]? = some first := by rw [← hCd]; rfl
        have hCM : C[M]? = some behind := by
          rw [← hCd, show M = c2.length + 1 by omega]; simp
        have hCstep : deep = 0 → ∀ (j a b : Nat), C[j]? = some a → C[j + 1]? = some b → b = a + 1 := by
          intro hd0 j a b ha hb
          have e : C = List.range' first (cnt + 1) := by
            rw [← hCd, g5 hd0, List.range'_succ, List.range'_eq_map_range]
            congr 1
            rw [show cnt = ((behind : Int) - ((first : Int) + 1)).toNat + 1 by omega, List.range_succ, List.map_append]
            congr 1
            simp; omega
          rw [e] at ha hb
          obtain ⟨q1, q2⟩ := List.getElem?_eq_some_iff.mp ha
          obtain ⟨q3, q4⟩ := List.getElem?_eq_some_iff.mp hb
          simp [List.getElem_range'] at q2 q4
          omega
        have hCle : ∀ (j a : Nat), C[j]? = some a → first ≤ a ∧ a ≤ behind := by
          intro j a ha
          have hm := List.mem_of_getElem? ha
          rw [← hCd] at hm
          rcases List.mem_cons.mp hm with rfl | hm
          · omega
          · rcases List.mem_append.mp hm with hm | hm
            · have := g4 a hm; omega
            · simp at hm; omega
        have hdeq : ((deep + 1 : Nat) : Int) - 1 = deep := by omega
        clear g3 g4 g5 g6 hCd hCl
        walk_at "ev"
        rw [rngL0]
        refine use_comp0 (e := fun (k : Nat) => .int k) (P := fun r => ∃ p t', Drawn cs n first cnt (deep + 1) t t' p ∧ leave _ _ (sqB _ _ (sSet _ _ (kBlt _ (kEs1 _ _ _ (kLstR r))))) = .ok p.e (Jb t' cs :: T)) (fun pre acc S' => ∃ (t2 : Int) (ps : List Part) (a : Nat), acc = ps.map Part.e ∧ S' = Jb t2 cs :: (T ++ [.lst (C.map eK)]) ∧ ps.length = pre.length ∧ C[pre.length]? = some a ∧ t1 ≤ t2 ∧ t2 ≤ t1 + ((20 * (a - first) * (deep + 1) : Nat) : Int) ∧ (∀ p ∈ ps, p.ok n ∧ p.dp ≤ deep) ∧ ps.flatMap Part.flds = List.range' first (a - first) ∧ sizes ps ≤ (a - first) * (deep + 1)) ⟨t1, [], first, rfl, rfl, rfl, hC0, by omega, by omega, by simp, by simp, by simp [sizes]⟩ ?_ ?_ ?_ ?_
        · rintro pre k post acc _ he ⟨t2, ps, a, rfl, rfl, e1, e2, e3, e4, e5, e6, e7⟩
          obtain ⟨hk, hkl, hpre⟩ := range_split he
          subst hk
          obtain ⟨b, hb⟩ : ∃ b, C[pre.length + 1]? = some b := ⟨C[pre.length + 1]'(by omega), List.getElem?_eq_getElem _⟩
          have hab : a < b := by
            obtain ⟨q1, q2⟩ := List.getElem?_eq_some_iff.mp e2
            obtain ⟨q3, q4⟩ := List.getElem?_eq_some_iff.mp hb
            rw [← q2, ← q4]
            exact List.pairwise_iff_getElem.mp hCasc _ _ q1 q3 (by omega)
          have ha' := hCle _ _ e2
          have hb' := hCle _ _ hb
          have hst : deep = 0 → b = a + 1 := fun h => hCstep h _ _ _ e2 hb
          have m1 : 20 * (a - first) * (deep + 1) + 20 * (b - a) * (deep + 1) = 20 * (b - first) * (deep + 1) := by
            rw [← Nat.add_mul, ← Nat.mul_add]; congr 2; omega
          have m2 : 20 * (b - first) * (deep + 1) ≤ 20 * cnt * (deep + 1) := Nat.mul_le_mul_right _ (Nat.mul_le_mul_left _ (by omega))
          have m3 : 20 * cnt * (deep + 1 + 1) = 20 * cnt * (deep + 1) + 20 * cnt := Nat.mul_succ _ _
          have m4 : (a - first) * (deep + 1) + (b - a) * (deep + 1) = (b - first) * (deep + 1) := by
            rw [← Nat.add_mul]; congr 1; omega
          rw [hcnt] at ht1
          obtain ⟨p, t3, hD, hcall⟩ := ihP a b t2 (T ++ [.lst (C.map eK)]) hab (by omega) hst (by omega) (by omega)
          have i1 : (C.map eK)[pre.length]? = some (.int a) := by rw [List.getElem?_map, e2]; rfl
          have i2 : atI (C.map eK) ((pre.length : Int) + 1) = some (.int b) := by
            rw [show ((pre.length : Int) + 1) = ((pre.length + 1 : Nat) : Int) by omega, at_n, List.getElem?_map, hb]; rfl
          have q1 := hD.lo
          have q2 := hD.hi
          clear ihP hdr htx hif hifN he hpre hCle hCstep hst hCasc
          walk_at "ev"
          refine ⟨t3, ps ++ [p], b, by simp, rfl, by simp [e1], by simpa using hb, by omega, by omega, ?_, ?_, ?_⟩
          · intro q hq
            rcases List.mem_append.mp hq with hq | hq
            · exact e5 q hq
            · simp at hq; subst hq; exact ⟨hD.ok, hD.dp⟩
          · rw [List.flatMap_append, e6, List.flatMap_singleton, hD.fl, show b - first = (a - first) + (b - a) by omega, ← List.range'_append_1, show first + (a - first) = a by omega]
          · have := sizes_snoc p ps
            have := hD.sz
            omega
        · simp; omega
        · rintro pre acc _ ⟨t2, ps, a, rfl, rfl, e1, _⟩
          rw [List.length_map, e1]
        · rintro acc _ ⟨t2, ps, a, rfl, rfl, e1, e2, e3, e4, e5, e6, e7⟩
          rw [List.length_range] at e1 e2
          rw [hCM] at e2
          cases e2
          rw [hcnt] at e4 e6 e7 ht1
          have m3 : 20 * cnt * (deep + 1 + 1) = 20 * cnt * (deep + 1) + 20 * cnt := Nat.mul_succ _ _
          have m5 : cnt * (deep + 1 + 1) = cnt * (deep + 1) + cnt := Nat.mul_succ _ _
          clear ihP hCle hCstep hCasc hC hC0 hCM hdeq hM
          have hps : ps ≠ [] := fun h => by rw [h] at e1; simp at e1; omega
          have hpl : ps.length ≤ 60 := by omega
          have hdps : dps ps ≤ deep := dps_le fun p hp => (e5 p hp).2
          have hfl : (ps.map Part.e).length ≤ 16777216 := by rw [List.length_map]; omega
          by_cases hv : drawV cs t2 3 = 0
          · walk_at "ev"
            refine ⟨.eit ps, t2 + 1, ⟨by omega, by omega, ?_, ?_, ?_, ?_⟩, ?_⟩
            · rw [eit_ok]; exact ⟨hps, hpl, fun p hp => (e5 p hp).1⟩
            · rw [Part.flds, fldss_eq]; exact e6
            · rw [Part.dp]; omega
            · rw [Part.size]; omega
            · rw [← eit_e]; exact leave_jar (Part.bel _ _)
          · have h4 := optT_lo (decide (drawV cs (t2 + 1) 3 = 0)) (t2 + 1 + 1)
            obtain ⟨t4, ht4⟩ : ∃ t4, optT (decide (drawV cs (t2 + 1) 3 = 0)) (t2 + 1 + 1) = t4 := ⟨_, rfl⟩
            rw [ht4] at h4
            have h5 := optT_lo (decide (drawV cs t4 3 = 0)) (t4 + 1)
            obtain ⟨t5, ht5⟩ : ∃ t5, optT (decide (drawV cs t4 3 = 0)) (t4 + 1) = t5 := ⟨_, rfl⟩
            rw [ht5] at h5
            have h6 := optT_lo (drawV cs (t5 + 1) 2 != 0) (t5 + 1 + 1)
            obtain ⟨t6, ht6⟩ : ∃ t6, optT (drawV cs (t5 + 1) 2 != 0) (t5 + 1 + 1) = t6 := ⟨_, rfl⟩
            rw [ht6] at h6
            walk_at "ev"
            refine ⟨.row (optV cs (decide (drawV cs (t2 + 1) 3 = 0)) (t2 + 1 + 1)) (textV cs t5) (optO cs (drawV cs (t5 + 1) 2 != 0) (t5 + 1 + 1)) (optV cs (decide (drawV cs t4 3 = 0)) (t4 + 1)) ps, t6, ⟨by omega, by omega, ?_, ?_, ?_, ?_⟩, ?_⟩
            · rw [row_ok]; exact ⟨optV_len _ _ _, textV_len _ _, optO_len _ _ _ _ (textV_len _ _), optV_len _ _ _, hps, hpl, fun p hp => (e5 p hp).1⟩
            · rw [Part.flds, fldss_eq]; exact e6
            · rw [Part.dp]; omega
            · rw [Part.size]; omega
            · rw [← row_e]; exact leave_jar (Part.bel _ _)
end K87
end Ev
/-! P87l: the law's drawn templates, parts moved. -/
namespace Ev
namespace K87
open PySem L2
local macro_rules | `(tactic| walk_at "ev") => `(tactic| simp -implicitDefEqProofs (disch := first | assumption | omega | exact Nat.zero_le _ | (simp only [List.length_nil, List.length_cons, List.length_append, List.length_map, List.length_replicate, List.length_reverse, List.length_range]; omega)) only [varO_s, consO_s, setL_0, setL_s, asg_one, asg_tup, asgs_nil, asgsK_s, asgs_cons, setK_s, setAll_nil, setAll_cons, wipeN_0, wipeN_s, wipe_nil, wipe_cons, mkTup_ok, mkLst_ok, mkDic_ok, mkLive_l, negD_i, notD_b, revD_l, kwA_s, kwD_s, addA_ok, gixO_s, asI_i, rng1D_ok, rng2D_ok, putO_s, raiO_ok, nxO_s, ifE_t, ifE_f, ifS_t, ifS_f, andE_t, andE_f, orE_t, orE_f, kTup_k, kTup_x, kLst_k, kLst_x, kLive_k, kLive_x, kDic_k, kDic_x, kBin2_k, kBin2_x, kBin1_k, kBin1_x, kNeg_k, kNeg_x, kNot_k, kNot_x, kCmp2_k, kCmp2_x, kCmp1_k, kCmp1_x, chnO_t, chnO_f, kChn2_k, kChn2_x, kChn1_k, kChn1_x, kIf_k, kIf_x, kAnd_k, kAnd_x, kOr_k, kOr_x, kIdx2_k, kIdx2_x, kIdx1_k, kIdx1_x, kSlc3_k, kSlc3_x, kSlc2_k, kSlc2_x, kSlc1_k, kSlc1_x, kRev_k, kRev_x, kCal_k, kCal_x, kKw_k, kKw_x, kIsi_k, kIsi_x, kBlt_k, kBlt_x, kMth2_k, kMth2_x, mthG_t, kMth1_k, kMth1_x, kGix_k, kGix_x, kEs2_k, kEs2_x, kEs1_k, kEs1_x, kAsI_k, kAsI_x, kSeq_k, kSeq_x, kRng1_k, kRng1_x, kRng2b_k, kRng2b_x, kRng2a_k, kRng2a_x, kEnu2_k, kEnu2_x, kEnu1_k, kEnu1_x, kZip4_k, kZip4_x, kZip3_k, kZip3_x, kZip2_k, kZip2_x, kZip1_k, kZip1_x, kRvs2_k, kRvs2_x, kRvs1_k, kRvs1_x, addK_k, ifC_t, ifC_f, ifCK_k, turn0_s, turn1_s, turnS_s, kLstR_k, kComp0_k, kComp0_x, kComp1_k, kComp1_x, sExpr_k, sExpr_x, sSet_k, sSet_x, sPar_k, sPar_x, sPut3_k, sPut3_x, sPut2_k, sPut2_x, sPut1_k, sPut1_x, sIf_k, sIf_x, sFor_k, sFor_x, sRet_k, sRet_x, sRai_k, sRai_x, sqB_nx, sqB_rt, sqB_bk, sqB_ct, sqB_x, tryK_nx, tryK_rt, s_try, e_var, e_con, e_glb, e_tup, e_lst, e_dsp, e_live, e_bin, e_neg, e_nt, e_cmp, e_chn, e_and, e_or, e_ite, e_idx, e_slc, e_rev, e_cal, e_calk, e_isi, e_blt, e_mth, e_comp0, e_comp1, e_gix, es_nil, es_cons, ep_no, ep_so, ea_1, ea_2, eo_1, eo_2, ei_seq, ei_rng1, ei_rng2, ei_enu, ei_zip, ei_rvs, s_expr, s_set, s_par, s_put, s_ifs, s_whl, s_for, s_ret, s_retn, s_brk, s_cnt, s_pas, s_rai, b_nil, b_cons, cx_cal, cx_glb, cx_gdc, cx_kws, cx_fld, cx_sub, cx_fuel, leave_rt, leave_nx, leave_exc, drf_tup, drf_lst, drf_ro, drfq_str, drfq_int, drfq_bl, drfq_non, drf_dic, drf_loc, drO_l, bin_add_i, bin_add_s, bin_add_t, bin_add_l, addO_ok, bin_sub_i, bin_mul_i, bin_mul_s, bin_fdiv_i, bin_mod_i, idx_r, idxR_t, idxR_l, idxR_r, idxR_d, at_n, at_0, at_1, at_2, at_3, at_4, at_5, at_m1, len_l, len_t, len_r, len_s, len_loc, lenR_l, seqD_l, seqD_t, seqD_r, seqD_loc, seqR_l, tup_q, lst_q, srcD_l, srcD_t, srcD_r, srcD_s, srcQ_l, srcQ_t, srcD_loc, srcO_l, cmp_eq, cmp_ne, cmp_isN, cmp_isnN, isNon_n, isNon_i, isNon_s, isNon_t, isNon_l, isNon_o, cmp_in, cmp_nin, cmp_lt_i, cmp_le_i, cmp_gt_i, cmp_ge_i, cmp_le_s, cmp_lt_s, eq_i, eq_s, eq_b, eq_si, eq_is, tru_b, tru_i, tru_n, isi_t_tuple, isi_t_list, isi_t_str, isi_t_int, isi_t_bool, isi_l_tuple, isi_l_list, isi_l_str, isi_l_int, isi_l_bool, isi_s_tuple, isi_s_list, isi_s_str, isi_s_int, isi_s_bool, isi_i_tuple, isi_i_list, isi_i_str, isi_i_int, isi_i_bool, isi_b_tuple, isi_b_list, isi_b_str, isi_b_int, isi_b_bool, isiq_n, isL_l, ty_append, ty_extend, ty_pop, ty_index, ty_join, m_append, appO_ok, m_extend, extO_ok, m_pop, popO_ok, st_get0, st_get1, st_get2, st_get3, st_set0, st_set1, st_set2, st_app, st_len, fin_f, fin_tk, fin_tx, Res.nox_ok, Res.nox_exc, ofO_some, ofO_none, reo, List.getElem?_cons_zero, List.getElem?_cons_succ, List.length_cons, List.length_nil, List.cons_append, List.nil_append, Option.map_some, Option.map_none, List.getLast?_cons_cons, List.getLast?_singleton, decide_true, decide_false, Bool.not_true, Bool.not_false, Nat.zero_add, Nat.reduceAdd, Nat.reduceLeDiff, Nat.reduceLT, Int.reduceNeg, List.length_map, if_true, if_false, goes_nx, goes_ct, ends_nx, ends_ct, ends_rt, reduceCtorEq, false_and, and_false, and_true, true_and, Bool.and_true, Bool.and_false, eqS_nn, eqS_nc, eqS_cn, eqS_cc, eqS_self, Nat.reduceBEq, Bool.true_and, Bool.false_and, beq_self_eq_true, slc_r, slcR_t, slcR_l, slcR_r, slcR_s, cut_hi, cut_lo, toNat_s, srt_r, in_tup, m_index, ixO_s, Int.reduceToNat, Int.toNat_natCast, Int.reduceSub, Int.reduceAdd, List.take_succ_cons, List.take_zero, List.drop_succ_cons, List.drop_zero, Int.reduceLT, Int.reduceLE, cast_0, cast_1, Int.cast_ofNat_Int, bin_add_loc, addR_l, eq_self, isNon_b, isNon_r, isNon_d, put_loc, putR_0, putR_n, in_str1, Int.reduceEq, List.set_cons_zero, List.set_cons_succ, int1_i, min2_i, max2_i, okP_ok, cut_m1, Nat.reduceSub, Nat.add_one_sub_one, evOn_s, gd_nil, gdS_nil, fld_e, row_e, eit_e, eO_none, eO_some, leave_rt, leave_nx, leave_exc, *])
theorem drawV_at {α : Type} (cs : List Int) (t : Int) {xs : List α} {n : Int} (hn : (xs.length : Int) = n) (h : 0 < n) : ∃ x ∈ xs, atI xs (drawV cs t n) = some x := by
  have h2 := drawV_lo (cs := cs) (t := t) h
  obtain ⟨k, hk⟩ : ∃ k : Nat, drawV cs t n = k := ⟨(drawV cs t n).toNat, by omega⟩
  have hkl : k < xs.length := by omega
  rw [hk, at_n, List.getElem?_eq_getElem hkl]
  exact ⟨_, List.getElem_mem hkl, rfl⟩
theorem drawV_nat (cs : List Int) (t : Int) {n : Nat} (h : 0 < n) : ∃ k : Nat, drawV cs t n = k ∧ k < n := by
  have h2 := drawV_lo (cs := cs) (t := t) (many := n) (by omega)
  exact ⟨(drawV cs t n).toNat, by omega, by omega⟩
def poolT : List Tx := [[110, 111], [107], [115, 116, 114, 101, 101, 116], [98, 50], [97], [122, 122, 57], [104], [109, 109], [119, 101, 115, 116], [112], [99], [114, 111, 119, 49], [100, 100]]
def nmOf (s st k : Nat) : Tx := (poolT[(s + k * st) % 13]?).getD []
theorem pool_nd : poolT.Nodup := by decide
theorem nmOf_at (s st k : Nat) : atI (poolT.map D.str) (((s : Int) + (k : Int) * (1 + (st : Int))) % 13) = some (.str (nmOf s (1 + st) k)) := by
  have h1 : ((s : Int) + (k : Int) * (1 + (st : Int))) % 13 = (((s + k * (1 + st)) % 13 : Nat) : Int) := by
    have : ((s : Int) + (k : Int) * (1 + (st : Int))) = ((s + k * (1 + st) : Nat) : Int) := by simp
    rw [this]; omega
  have h2 : (s + k * (1 + st)) % 13 < poolT.length := Nat.mod_lt _ (by decide)
  rw [h1, at_n, List.getElem?_map]
  unfold nmOf
  rw [List.getElem?_eq_getElem h2]; rfl
theorem nmOf_mem (s st k : Nat) : nmOf s st k ∈ poolT := by
  have h2 : (s + k * st) % 13 < poolT.length := Nat.mod_lt _ (by decide)
  unfold nmOf
  rw [List.getElem?_eq_getElem h2]
  exact List.getElem_mem h2
theorem nmOf_inj {s st : Nat} (h1 : 1 ≤ st) (h2 : st ≤ 12) {j k : Nat} (hj : j < 13) (hk : k < 13) (h : nmOf s st j = nmOf s st k) : j = k := by
  have q1 : (s + j * st) % 13 < poolT.length := Nat.mod_lt _ (by decide)
  have q2 : (s + k * st) % 13 < poolT.length := Nat.mod_lt _ (by decide)
  unfold nmOf at h
  rw [List.getElem?_eq_getElem q1, List.getElem?_eq_getElem q2] at h
  have h : poolT[(s + j * st) % 13] = poolT[(s + k * st) % 13] := h
  have e : (s + j * st) % 13 = (s + k * st) % 13 := by
    apply Classical.byContradiction
    intro hne
    rcases Nat.lt_or_gt_of_ne hne with h' | h'
    · exact (List.pairwise_iff_getElem.mp pool_nd) _ _ q1 q2 h' h
    · exact (List.pairwise_iff_getElem.mp pool_nd) _ _ q2 q1 h' h.symm
  have e2 : (j * st) % 13 = (k * st) % 13 := by omega
  have key : ∀ st : Fin 13, st.val ≠ 0 → ∀ j k : Fin 13, (j.val * st.val) % 13 = (k.val * st.val) % 13 → j = k := by decide
  have := key ⟨st, by omega⟩ (by show st ≠ 0; omega) ⟨j, hj⟩ ⟨k, hk⟩ e2
  exact congrArg Fin.val this
theorem pool_ok : ∀ x ∈ poolT, x ≠ [] ∧ x.length ≤ 8 := by decide
theorem ok_template {m : Nat} {cs : List Int} (hc : Cells cs) (many deep : Nat) (t0 : Int) (T : Sto) (hm : deep + 4 ≤ m) (h1 : 1 ≤ many) (h2 : many ≤ 12) (hd : 1 ≤ deep) (hd3 : deep ≤ 3) (ht : 0 ≤ t0) (ht' : t0 ≤ 100000000000) :
    ∃ (t : Tpl) (t1 : Int), t.ok ∧ t.fs.length = many ∧ (∀ f ∈ t.fs, f.nm ∈ poolT) ∧ t.pt.dp ≤ deep ∧ t.pt.size ≤ 100 ∧ t0 ≤ t1 ∧ t1 ≤ t0 + 10000 ∧ callF G tab m "_law_template" [.loc 0, .int many, .int deep] (Jb t0 cs :: T) = .ok t.e (Jb t1 cs :: T) := by
  obtain ⟨m, rfl⟩ := lev (a := 3) (m := m) (by omega)
  have hdr := fun (t : Int) (T : Sto) (many : Int) (ht : 0 ≤ t ∧ t < 1152921504606846976) (h0 : 0 < many) => ok_draw (m := m) hc t many T (by omega) ht h0
  have hif := fun (b : Bool) (t : Int) (T : Sto) (o : Loc) (ht : 0 ≤ t ∧ t < 1152921504606846976) => if_text (m := m) hc (by omega) b t T o ht
  have hpart := fun (t : Int) (T : Sto) => ok_part hc many (by omega) deep (m := m) 0 many t T (by omega) (by omega) (by omega) (by omega) (by omega)
  have h5 : [D.str [110, 111], .str [107], .str [115, 116, 114, 101, 101, 116], .str [98, 50], .str [97], .str [122, 122, 57], .str [104], .str [109, 109], .str [119, 101, 115, 116], .str [112], .str [99], .str [114, 111, 119, 49], .str [100, 100]] = poolT.map D.str := rfl
  have h6 : poolT.length ≤ 16777216 := by decide
  have h7 : [D.str sLet, .str sDig, .str sSig] = [sLet, sDig, sSig].map D.str := rfl
  have h8 : [D.int 1, .int 2, .int 3, .int 9, .int 40, .int 4] = [(1 : Int), 2, 3, 9, 40, 4].map D.int := rfl
  obtain ⟨s, hs, hs13⟩ := drawV_nat cs t0 (n := 13) (by decide)
  obtain ⟨st, hst, hst12⟩ := drawV_nat cs (t0 + 1) (n := 12) (by decide)
  have hs' : drawV cs t0 13 = s := hs
  have hst' : drawV cs (t0 + 1) 12 = st := hst
  clear hs hst
  rw [u__law_template]
  walk_at "ev"
  rw [rngL0]
  refine use_for (e := eK) (P := fun r => ∃ (t : Tpl) (t1 : Int), t.ok ∧ t.fs.length = many ∧ (∀ f ∈ t.fs, f.nm ∈ poolT) ∧ t.pt.dp ≤ deep ∧ t.pt.size ≤ 100 ∧ t0 ≤ t1 ∧ t1 ≤ t0 + 10000 ∧ leave _ _ (sqB _ _ r) = .ok t.e (Jb t1 cs :: T)) (fun pre ls S' => ∃ (t1 : Int) (fs : List Fld) (o5 o8 : Option D), ls = [some (.loc 0), some (.int many), some (.int deep), some (.tup (poolT.map D.str)), some (.tup (fs.map Fld.e)), o5, some (.int s), some (.int (1 + st)), o8] ∧ S' = Jb t1 cs :: T ∧ t0 ≤ t1 ∧ t1 ≤ t0 + 2 + 2 * pre.length ∧ fs.map Fld.nm = pre.map (nmOf s (1 + st)) ∧ ∀ f ∈ fs, f.ok) ⟨_, [], _, _, rfl, rfl, by omega, by simp; omega, rfl, by simp⟩ ?_ ?_
  · rintro pre k post _ _ he ⟨t1, fs, o5, o8, rfl, rfl, g1, g2, g3, g4⟩
    obtain ⟨hk, hkl, hpre⟩ := range_split he
    have hfl : fs.length = pre.length := by have := congrArg List.length g3; simpa using this
    obtain ⟨kd, hkd, e1⟩ := drawV_at cs t1 (xs := [sLet, sDig, sSig]) (n := 3) rfl (by decide)
    obtain ⟨mo, hmo, e2⟩ := drawV_at cs (t1 + 1) (xs := [(1 : Int), 2, 3, 9, 40, 4]) (n := 6) rfl (by decide)
    have i1 : atI ([sLet, sDig, sSig].map D.str) (drawV cs t1 3) = some (.str kd) := by rw [atI_map, e1]; rfl
    have i2 : atI ([(1 : Int), 2, 3, 9, 40, 4].map D.int) (drawV cs (t1 + 1) 6) = some (.int mo) := by rw [atI_map, e2]; rfl
    have i3 := nmOf_at s st k
    have hl1 : (fs.map Fld.e).length ≤ 24 := by rw [List.length_map]; omega
    have hok : Fld.ok ⟨nmOf s (1 + st) k, kd, mo⟩ := by
      refine ⟨by simpa using hkd, ?_, ?_, (pool_ok _ (nmOf_mem _ _ _)).1, (pool_ok _ (nmOf_mem _ _ _)).2⟩
      · exact (show ∀ x ∈ [(1 : Int), 2, 3, 9, 40, 4], 1 ≤ x by decide) mo hmo
      · exact (show ∀ x ∈ [(1 : Int), 2, 3, 9, 40, 4], x ≤ 40 by decide) mo hmo
    have hkb : k < 24 := by omega
    clear hpart e1 e2 hpre he hk
    walk_at "ev"
    exact ⟨t1 + 1 + 1, fs ++ [⟨nmOf s (1 + st) k, kd, mo⟩], some (eK k), some (.str kd), by rw [List.map_append]; rfl, rfl, by omega, by simp; omega, by rw [List.map_append, g3, List.map_append]; rfl, fun f hf => by
      rcases List.mem_append.mp hf with hf | hf
      · exact g4 f hf
      · simp at hf; subst hf; exact hok⟩
  · rintro _ _ ⟨t1, fs, o5, o8, rfl, rfl, g1, g2, g3, g4⟩
    rw [List.length_range] at g2
    have hfl : fs.length = many := by have := congrArg List.length g3; simpa using this
    have hl1 : (fs.map Fld.e).length ≤ 24 := by rw [List.length_map]; omega
    have q1 : 20 * many * (deep + 1) ≤ 960 := Nat.le_trans (Nat.mul_le_mul (Nat.mul_le_mul_left 20 h2) (show deep + 1 ≤ 4 by omega)) (by decide)
    have q2 : many * (deep + 1) ≤ 48 := Nat.le_trans (Nat.mul_le_mul h2 (show deep + 1 ≤ 4 by omega)) (by decide)
    obtain ⟨p, t2, hD, hcall⟩ := hpart t1 T (by omega) (by rw [Nat.sub_zero]; omega)
    have d1 := hD.lo
    have d2 := hD.hi
    rw [Nat.sub_zero] at d2
    have h9 := optT_lo (drawV cs t2 2 != 0) (t2 + 1)
    obtain ⟨t3, ht3⟩ : ∃ t3, optT (drawV cs t2 2 != 0) (t2 + 1) = t3 := ⟨_, rfl⟩
    rw [ht3] at h9
    have hcall' : callF G tab m "_law_part" [.loc 0, .int 0, .int many, .int deep] (Jb t1 cs :: T) = .ok p.e (Jb t2 cs :: T) := hcall
    clear hpart hcall
    walk_at "ev"
    refine ⟨⟨fs, p, optV cs (drawV cs t2 2 != 0) (t2 + 1)⟩, t3, ⟨by show fs.length ≤ 24; omega, g4, ?_, by rw [hfl]; exact hD.ok, ?_, ?_, optV_len _ _ _, ?_⟩, hfl, ?_, hD.dp, ?_, by omega, by omega, rfl⟩
    · show (fs.map Fld.nm).Nodup
      rw [g3, List.Nodup, List.pairwise_map]
      refine List.nodup_range.imp_of_mem fun {a b} ha hb hab e => hab ?_
      have := List.mem_range.mp ha
      have := List.mem_range.mp hb
      exact nmOf_inj (by omega) (by omega) (by omega) (by omega) e
    · show p.flds = List.range fs.length
      rw [hD.fl, hfl, Nat.sub_zero, List.range_eq_range']
    · show p.dp ≤ 5
      have := hD.dp; omega
    · show p.size ≤ 1000
      have := hD.sz; rw [Nat.sub_zero] at this; omega
    · intro f hf
      have : f.nm ∈ fs.map Fld.nm := List.mem_map_of_mem hf
      rw [g3] at this
      obtain ⟨k, _, e⟩ := List.mem_map.mp this
      rw [← e]; exact nmOf_mem _ _ _
    · have := hD.sz; rw [Nat.sub_zero] at this; show p.size ≤ 100; omega
mutual
def _root_.Ev.Part.mv (b : Nat) : Part → Part
  | .fld k x y => .fld (k + b) x y
  | .row x s l y ps => .row x s l y (mvs b ps)
  | .eit ps => .eit (mvs b ps)
def mvs (b : Nat) : List Part → List Part
  | [] => []
  | p :: ps => p.mv b :: mvs b ps
end
theorem mvs_map (b : Nat) : ∀ ps : List Part, mvs b ps = ps.map (Part.mv b)
  | [] => rfl
  | p :: ps => by rw [mvs, List.map_cons, mvs_map b ps]
theorem ok_moved {n b : Nat} : ∀ (p : Part) {m : Nat} (S : Sto), p.dp + 1 ≤ m → p.ok n → callF G tab m "_law_moved" [p.e, .int b] S = .ok (p.mv b).e S := by
  intro p
  induction p using Part.ind with
  | hf k x y =>
    intro m S hm _
    obtain ⟨m, rfl⟩ := lev (a := 0) (m := m) (by omega)
    rw [u__law_moved, Part.mv, fld_e, fld_e]
    walk_at "ev"
    simp
  | hr x s l y ps ih =>
    intro m S hm hp
    rw [row_ok] at hp
    rw [Part.dp] at hm
    obtain ⟨m, rfl⟩ := lev (a := 0) (m := m) (by omega)
    have h1 : ∀ p ∈ ps, callF G tab m "_law_moved" [p.e, .int b] S = .ok (p.mv b).e S := fun p hp' => ih p hp' S (by have := dp_le hp'; omega) (hp.2.2.2.2.2.2 p hp')
    have hn : ps.length ≤ 60 := hp.2.2.2.2.2.1
    clear ih hp hm
    rw [u__law_moved, Part.mv, row_e, row_e, mvs_map]
    walk_at "ev"
    rw [comp0_one (e := Part.e) (g := fun p => (p.mv b).e)]
    · walk_at "ev"
      rw [List.map_map]; rfl
    · intro p hp
      have := h1 p hp
      walk_at "ev"
    · omega
  | he ps ih =>
    intro m S hm hp
    rw [eit_ok] at hp
    rw [Part.dp] at hm
    obtain ⟨m, rfl⟩ := lev (a := 0) (m := m) (by omega)
    have h1 : ∀ p ∈ ps, callF G tab m "_law_moved" [p.e, .int b] S = .ok (p.mv b).e S := fun p hp' => ih p hp' S (by have := dp_le hp'; omega) (hp.2.2 p hp')
    have hn : ps.length ≤ 60 := hp.2.1
    clear ih hp hm
    rw [u__law_moved, Part.mv, eit_e, eit_e, mvs_map]
    walk_at "ev"
    rw [comp0_one (e := Part.e) (g := fun p => (p.mv b).e)]
    · walk_at "ev"
      rw [List.map_map]; rfl
    · intro p hp
      have := h1 p hp
      walk_at "ev"
    · omega
end K87
end Ev
/-! P87m: the law. -/
namespace Ev
namespace K87
open PySem L2
local macro_rules | `(tactic| walk_at "ev") => `(tactic| simp -implicitDefEqProofs (disch := first | assumption | omega | exact Nat.zero_le _ | (simp only [List.length_nil, List.length_cons, List.length_append, List.length_map, List.length_replicate, List.length_reverse, List.length_range]; omega)) only [varO_s, consO_s, setL_0, setL_s, asg_one, asg_tup, asgs_nil, asgsK_s, asgs_cons, setK_s, setAll_nil, setAll_cons, wipeN_0, wipeN_s, wipe_nil, wipe_cons, mkTup_ok, mkLst_ok, mkDic_ok, mkLive_l, negD_i, notD_b, revD_l, kwA_s, kwD_s, addA_ok, gixO_s, asI_i, rng1D_ok, rng2D_ok, putO_s, raiO_ok, nxO_s, ifE_t, ifE_f, ifS_t, ifS_f, andE_t, andE_f, orE_t, orE_f, kTup_k, kTup_x, kLst_k, kLst_x, kLive_k, kLive_x, kDic_k, kDic_x, kBin2_k, kBin2_x, kBin1_k, kBin1_x, kNeg_k, kNeg_x, kNot_k, kNot_x, kCmp2_k, kCmp2_x, kCmp1_k, kCmp1_x, chnO_t, chnO_f, kChn2_k, kChn2_x, kChn1_k, kChn1_x, kIf_k, kIf_x, kAnd_k, kAnd_x, kOr_k, kOr_x, kIdx2_k, kIdx2_x, kIdx1_k, kIdx1_x, kSlc3_k, kSlc3_x, kSlc2_k, kSlc2_x, kSlc1_k, kSlc1_x, kRev_k, kRev_x, kCal_k, kCal_x, kKw_k, kKw_x, kIsi_k, kIsi_x, kBlt_k, kBlt_x, kMth2_k, kMth2_x, mthG_t, kMth1_k, kMth1_x, kGix_k, kGix_x, kEs2_k, kEs2_x, kEs1_k, kEs1_x, kAsI_k, kAsI_x, kSeq_k, kSeq_x, kRng1_k, kRng1_x, kRng2b_k, kRng2b_x, kRng2a_k, kRng2a_x, kEnu2_k, kEnu2_x, kEnu1_k, kEnu1_x, kZip4_k, kZip4_x, kZip3_k, kZip3_x, kZip2_k, kZip2_x, kZip1_k, kZip1_x, kRvs2_k, kRvs2_x, kRvs1_k, kRvs1_x, addK_k, ifC_t, ifC_f, ifCK_k, turn0_s, turn1_s, turnS_s, kLstR_k, kComp0_k, kComp0_x, kComp1_k, kComp1_x, sExpr_k, sExpr_x, sSet_k, sSet_x, sPar_k, sPar_x, sPut3_k, sPut3_x, sPut2_k, sPut2_x, sPut1_k, sPut1_x, sIf_k, sIf_x, sFor_k, sFor_x, sRet_k, sRet_x, sRai_k, sRai_x, sqB_nx, sqB_rt, sqB_bk, sqB_ct, sqB_x, tryK_nx, tryK_rt, s_try, e_var, e_con, e_glb, e_tup, e_lst, e_dsp, e_live, e_bin, e_neg, e_nt, e_cmp, e_chn, e_and, e_or, e_ite, e_idx, e_slc, e_rev, e_cal, e_calk, e_isi, e_blt, e_mth, e_comp0, e_comp1, e_gix, es_nil, es_cons, ep_no, ep_so, ea_1, ea_2, eo_1, eo_2, ei_seq, ei_rng1, ei_rng2, ei_enu, ei_zip, ei_rvs, s_expr, s_set, s_par, s_put, s_ifs, s_whl, s_for, s_ret, s_retn, s_brk, s_cnt, s_pas, s_rai, b_nil, b_cons, cx_cal, cx_glb, cx_gdc, cx_kws, cx_fld, cx_sub, cx_fuel, leave_rt, leave_nx, leave_exc, drf_tup, drf_lst, drf_ro, drfq_str, drfq_int, drfq_bl, drfq_non, drf_dic, drf_loc, drO_l, bin_add_i, bin_add_s, bin_add_t, bin_add_l, addO_ok, bin_sub_i, bin_mul_i, bin_mul_s, bin_fdiv_i, bin_mod_i, idx_r, idxR_t, idxR_l, idxR_r, idxR_d, at_n, at_0, at_1, at_2, at_3, at_4, at_5, at_m1, len_l, len_t, len_r, len_s, len_loc, lenR_l, seqD_l, seqD_t, seqD_r, seqD_loc, seqR_l, tup_q, lst_q, srcD_l, srcD_t, srcD_r, srcD_s, srcQ_l, srcQ_t, srcD_loc, srcO_l, cmp_eq, cmp_ne, cmp_isN, cmp_isnN, isNon_n, isNon_i, isNon_s, isNon_t, isNon_l, isNon_o, cmp_in, cmp_nin, cmp_lt_i, cmp_le_i, cmp_gt_i, cmp_ge_i, cmp_le_s, cmp_lt_s, eq_i, eq_s, eq_b, eq_si, eq_is, tru_b, tru_i, tru_n, isi_t_tuple, isi_t_list, isi_t_str, isi_t_int, isi_t_bool, isi_l_tuple, isi_l_list, isi_l_str, isi_l_int, isi_l_bool, isi_s_tuple, isi_s_list, isi_s_str, isi_s_int, isi_s_bool, isi_i_tuple, isi_i_list, isi_i_str, isi_i_int, isi_i_bool, isi_b_tuple, isi_b_list, isi_b_str, isi_b_int, isi_b_bool, isiq_n, isL_l, ty_append, ty_extend, ty_pop, ty_index, ty_join, m_append, appO_ok, m_extend, extO_ok, m_pop, popO_ok, st_get0, st_get1, st_get2, st_get3, st_set0, st_set1, st_set2, st_app, st_len, fin_f, fin_tk, fin_tx, Res.nox_ok, Res.nox_exc, ofO_some, ofO_none, reo, List.getElem?_cons_zero, List.getElem?_cons_succ, List.length_cons, List.length_nil, List.cons_append, List.nil_append, Option.map_some, Option.map_none, List.getLast?_cons_cons, List.getLast?_singleton, decide_true, decide_false, Bool.not_true, Bool.not_false, Nat.zero_add, Nat.reduceAdd, Nat.reduceLeDiff, Nat.reduceLT, Int.reduceNeg, List.length_map, if_true, if_false, goes_nx, goes_ct, ends_nx, ends_ct, ends_rt, reduceCtorEq, false_and, and_false, and_true, true_and, Bool.and_true, Bool.and_false, eqS_nn, eqS_nc, eqS_cn, eqS_cc, eqS_self, Nat.reduceBEq, Bool.true_and, Bool.false_and, beq_self_eq_true, slc_r, slcR_t, slcR_l, slcR_r, slcR_s, cut_hi, cut_lo, toNat_s, srt_r, in_tup, m_index, ixO_s, Int.reduceToNat, Int.toNat_natCast, Int.reduceSub, Int.reduceAdd, List.take_succ_cons, List.take_zero, List.drop_succ_cons, List.drop_zero, Int.reduceLT, Int.reduceLE, cast_0, cast_1, Int.cast_ofNat_Int, bin_add_loc, addR_l, eq_self, isNon_b, isNon_r, isNon_d, put_loc, putR_0, putR_n, in_str1, Int.reduceEq, List.set_cons_zero, List.set_cons_succ, int1_i, min2_i, max2_i, okP_ok, cut_m1, Nat.reduceSub, Nat.add_one_sub_one, evOn_s, gd_nil, gdS_nil, fld_e, row_e, eit_e, eO_none, eO_some, leave_rt, leave_nx, leave_exc, *])
theorem best_pos {mo : Nat → Int} {n : Nat} (hmo : ∀ k, k < n → 1 ≤ mo k) : ∀ {p : Part}, p.ok n → 1 ≤ (p.best mo).1 := by
  intro p
  induction p using Part.ind with
  | hf k a b => intro h; rw [Part.ok] at h; have := hmo k h.1; rw [Part.best]; dsimp only; omega
  | hr a s l b ps ih =>
    intro h
    rw [row_ok] at h
    rw [Part.best, bests_map]
    have h1 := seps_nonneg s l ps.length
    obtain ⟨q, qs, rfl⟩ := List.exists_cons_of_ne_nil h.2.2.2.2.1
    have h2 := ih q (by simp) (h.2.2.2.2.2.2 q (by simp))
    have h3 : 0 ≤ ((qs.map (Part.best mo)).map (·.1)).sum := sum_nonneg fun x hx => by
      obtain ⟨y, hy, rfl⟩ := List.mem_map.mp hx
      obtain ⟨p, hp, rfl⟩ := List.mem_map.mp hy
      have := ih p (by simp [hp]) (h.2.2.2.2.2.2 p (by simp [hp]))
      omega
    simp only [List.map_cons, List.sum_cons]
    omega
  | he ps ih =>
    intro h
    rw [eit_ok] at h
    rw [Part.best, bests_map]
    cases ps with
    | nil => exact absurd rfl h.1
    | cons p ps =>
      have h1 := ih p (by simp) (h.2.2 p (by simp))
      have h2 := maxB_ge (ps.map (Part.best mo)) (p.best mo) (p.best mo) (by simp)
      show 1 ≤ (maxB _ _).1
      omega
theorem most0 {t : Tpl} (ht : t.ok) {k : Nat} (hk : k < t.fs.length) : mostO t k 0 = none := by
  cases h : mostO t k 0 with
  | none => rfl
  | some j =>
    obtain ⟨h1, h2, _⟩ := mostO_some h
    have h3 : 1 ≤ t.L k (1 + j) := by
      have hw := wm_ok ht hk (x := 1 + (j : Int)) (by omega) (by omega)
      exact best_pos (fun i hi => (hw.mo1 hi).1) hw.p
    omega
/-- what the law asks of a drawn template -/
structure LawT (t : Tpl) (rows : D) : Prop where
  ok : t.ok
  r : RowsFor t rows
  n0 : 0 < t.fs.length
  nm : ∀ f ∈ t.fs, f.nm ∉ [[110, 111, 98, 111, 100, 121, 57], [], [110, 111, 110, 101], [65]]
  d : t.pt.dp ≤ 4
def lawB : CB := (.cons (.set (.one 6) (.comp [19] (.one 19) (.seq (.idx (.var 4) (.con (.int 0)))) .no (.idx (.var 19) (.con (.int 2))))) (.cons (.set (.one 7) (.cal "_law_longest" (.cons (.var 4) (.cons (.var 5) (.cons (.var 6) .nil))))) (.cons (.ifs (.nt (.cal "_law_same" (.cons (.cal "longest" (.cons (.var 4) .nil)) (.cons (.var 7) .nil)))) (.cons (.ret (.con (.bl false))) .nil) .nil) (.cons (.for_ (.one 8) (.rng1 (.ite (.var 2) (.con (.int 2)) (.con (.int 3)))) (.cons (.set (.one 16) (.cal "_law_draw" (.cons (.var 1) (.cons (.var 3) .nil)))) (.cons (.set (.one 17) (.ite (.cmp .Lt (.var 8) (.con (.int 2))) (.blt .max2 (.cons (.con (.int 0)) (.cons (.bin .Add (.bin .Sub (.var 7) (.con (.int 4))) (.cal "_law_draw" (.cons (.var 1) (.cons (.con (.int 9)) .nil)))) .nil))) (.bin .Add (.var 7) (.cal "_law_draw" (.cons (.var 1) (.cons (.con (.int 40)) .nil)))))) (.cons (.ifs (.nt (.cal "_law_asked" (.cons (.var 4) (.cons (.var 5) (.cons (.var 16) (.cons (.var 17) .nil)))))) (.cons (.ret (.con (.bl false))) .nil) .nil) .nil)))) (.cons (.par [16, 17] (.cons (.cal "_law_draw" (.cons (.var 1) (.cons (.var 3) .nil))) (.cons (.bin .Add (.var 7) (.cal "_law_draw" (.cons (.var 1) (.cons (.con (.int 3)) .nil)))) .nil))) (.cons (.for_ (.one 9) (.seq (.tup (.cons (.var 17) (.cons (.con (.int 0)) (.cons (.con (.int 9999)) .nil))))) (.cons (.set (.one 18) (.live (.lst .nil))) (.cons (.for_ (.one 8) (.rng1 (.var 3)) (.cons (.set (.one 20) (.cal "_law_most" (.cons (.var 4) (.cons (.var 5) (.cons (.var 8) (.cons (.var 9) .nil)))))) (.cons (.ifs (.and (.cons (.cmp .IsNot (.var 20) (.con .non)) (.cons (.cmp .Gt (.var 20) (.idx (.var 6) (.var 8))) .nil))) (.cons (.expr (.mth .append (.var 18) (.cons (.idx (.idx (.idx (.var 4) (.con (.int 0))) (.var 8)) (.con (.int 0))) .nil))) .nil) .nil) .nil))) (.cons (.ifs (.nt (.cal "_law_same" (.cons (.cal "room_for" (.cons (.var 4) (.cons (.var 9) .nil))) (.cons (.blt .tuple (.cons (.blt .sorted (.cons (.var 18) .nil)) .nil)) .nil)))) (.cons (.ret (.con (.bl false))) .nil) .nil) .nil)))) (.cons (.ifs (.nt (.cal "_law_same" (.cons (.calk "most_for" ["number", "name", "template"] (.cons (.con (.int 0)) (.cons (.idx (.idx (.idx (.var 4) (.con (.int 0))) (.var 16)) (.con (.int 0))) (.cons (.var 4) .nil)))) (.cons (.con .non) .nil)))) (.cons (.ret (.con (.bl false))) .nil) .nil) (.cons (.set (.one 10) (.idx (.tup (.cons (.con (.str [110, 111, 98, 111, 100, 121, 57])) (.cons (.con (.str [])) (.cons (.con (.str [110, 111, 110, 101])) (.cons (.con (.str [65])) .nil))))) (.cal "_law_draw" (.cons (.var 1) (.cons (.con (.int 4)) .nil))))) (.cons (.set (.one 11) (.idx (.tup (.cons (.con (.int 0)) (.cons (.con (.int 41)) (.cons (.neg (.con (.int 1))) (.cons (.con (.int 40)) .nil))))) (.cal "_law_draw" (.cons (.var 1) (.cons (.con (.int 4)) .nil))))) (.cons (.set (.one 12) (.tup (.cons (.cal "_law_refused" (.cons (.con (.int 0)) (.cons (.var 4) (.cons (.var 10) (.cons (.var 17) .nil))))) (.cons (.cal "_law_refused" (.cons (.con (.int 1)) (.cons (.var 4) (.cons (.var 10) (.cons (.var 11) .nil))))) (.cons (.cal "_law_refused" (.cons (.con (.int 1)) (.cons (.var 4) (.cons (.idx (.idx (.idx (.var 4) (.con (.int 0))) (.var 16)) (.con (.int 0))) (.cons (.var 11) .nil))))) .nil))))) (.cons (.set (.one 13) (.ite (.cmp .Eq (.var 11) (.con (.int 40))) (.tup (.cons (.con (.str [116, 111, 108, 100])) (.cons (.cal "_law_changed" (.cons (.var 4) (.cons (.var 16) (.cons (.con (.int 40)) .nil)))) .nil))) (.tup (.cons (.con (.str [114, 101, 102, 117, 115, 101, 100])) (.cons (.con (.str [109, 111, 115, 116])) .nil))))) (.cons (.ret (.cal "_law_same" (.cons (.var 12) (.cons (.tup (.cons (.tup (.cons (.con (.str [114, 101, 102, 117, 115, 101, 100])) (.cons (.con (.str [102, 105, 101, 108, 100])) .nil))) (.cons (.tup (.cons (.con (.str [114, 101, 102, 117, 115, 101, 100])) (.cons (.con (.str [102, 105, 101, 108, 100])) .nil))) (.cons (.var 13) .nil)))) .nil)))) .nil))))))))))))
theorem kws_MF : G.kws "most_for" ["number", "name", "template"] = some [2, 1, 0] := by simp [G]
theorem zip_eq {α : Type} (xs : List α) (f : Nat → α) (h : ∀ k, k < xs.length → xs[k]? = some (f k)) : xs.zipIdx = (List.range xs.length).map fun k => (f k, k) := by
  apply List.ext_getElem?
  intro k
  rw [List.getElem?_zipIdx, List.getElem?_map]
  by_cases hk : k < xs.length
  · rw [h k hk, List.getElem?_range hk]; simp
  · rw [List.getElem?_eq_none (by omega), List.getElem?_eq_none (by simp; omega)]; rfl
theorem roomL_eq (t : Tpl) (n : Int) : roomL t n = ((List.range t.fs.length).filter (roomB t n)).map t.nm := by
  unfold roomL
  rw [zip_eq (t.fs.map Fld.nm) t.nm (fun k hk => by
    have hk : k < t.fs.length := by simpa using hk
    rw [List.getElem?_map, List.getElem?_eq_getElem hk, Tpl.nm_eq hk]; rfl), List.filter_map, List.map_map, List.length_map]
  rfl
theorem strs_sm : ∀ xs : List Tx, sms (xs.map D.str) = true
  | [] => rfl
  | x :: xs => by rw [List.map_cons, sms, strs_sm xs]; rfl
theorem srt_sm (xs : List Tx) : (D.tup (srtD (xs.map D.str))).sm = true := by
  show sms _ = true
  have h : ∀ d ∈ srtD (xs.map D.str), d.sm = true := fun d hd => by
    have := (List.mergeSort_perm (xs.map D.str) (PySem.W.dataLe false D.toPy)).mem_iff.mp hd
    obtain ⟨p, _, rfl⟩ := List.mem_map.mp this
    rfl
  generalize srtD (xs.map D.str) = l at h
  induction l with
  | nil => rfl
  | cons d l ih => rw [sms, h d (by simp), ih fun e he => h e (by simp [he])]; rfl
theorem srt_cnt (xs : List Tx) (hx : xs.length ≤ 100) : (D.tup (srtD (xs.map D.str))).cnt ≤ 100000 := by
  have hl : (srtD (xs.map D.str)).length = xs.length := by unfold srtD; rw [List.length_mergeSort, List.length_map]
  have h : ∀ d ∈ srtD (xs.map D.str), d.cnt = 1 := fun d hd => by
    have := (List.mergeSort_perm (xs.map D.str) (PySem.W.dataLe false D.toPy)).mem_iff.mp hd
    obtain ⟨p, _, rfl⟩ := List.mem_map.mp this
    simp [D.cnt]
  have : cnts (srtD (xs.map D.str)) = (srtD (xs.map D.str)).length := by
    generalize srtD (xs.map D.str) = l at h
    induction l with
    | nil => rfl
    | cons d l ih => rw [cnts, h d (by simp), ih fun e he => h e (by simp [he]), List.length_cons]; omega
  rw [D.cnt]; omega
theorem law_rest {m : Nat} {cs : List Int} (hc : Cells cs) (hm : 15 ≤ m) (t : Tpl) (rows : D) (L : LawT t rows) (wide : Bool) (o0 o14 o15 : Option D) (o8 : Option D) (t0 : Int) (T : Sto) (ht0 : 0 ≤ t0) (ht1 : t0 ≤ 1000000000000) :
    ∃ S', evB (G.cx (callF G tab m)) lawB [o0, some (.loc 0), some (.bl wide), some (.int t.fs.length), some t.e, some rows, none, none, o8, none, none, none, none, none, o14, o15, none, none, none, none, none] (Jb t0 cs :: T) = .rt (.bl true) S' := by
  have hdr := fun (t : Int) (T : Sto) (many : Int) (ht : 0 ≤ t ∧ t < 1152921504606846976) (h0 : 0 < many) => ok_draw (m := m) hc t many T (by omega) ht h0
  have hn0 : (0 : Int) < t.fs.length := by have := L.n0; omega
  have hmoL : ∀ k, k < t.fs.length → (t.fs.map Fld.mo)[k]? = some (t.mo k) := fun k hk => by rw [List.getElem?_map, List.getElem?_eq_getElem hk, Tpl.mo_eq hk]; rfl
  have hlong := fun S => ok_longestL (m := m) t L.ok S (by have := L.d; omega) rows L.r t.mo (t.fs.map Fld.mo) hmoL fun k hk => by have := (L.ok.mo1 hk).1; omega
  have hlong2 := fun S => ok_longest (m := m) t S (by have := L.d; omega) L.ok.p L.ok.nl
  obtain ⟨g, hg⟩ : ∃ g, (t.pt.best t.mo).1 = g := ⟨_, rfl⟩
  rw [hg] at hlong hlong2
  have hsame := fun (d : D) (S : Sto) (h1 : d.sm = true) (h2 : d.cnt ≤ 100000) => ok_same (m := m) d S (by omega) h1 h2
  have hsg := fun S => hsame (.int g) S rfl (by simp [D.cnt])
  have hl24 := L.ok.nf
  obtain ⟨nw, hnw, hwd⟩ : ∃ nw : Nat, nw ≤ 3 ∧ ∀ ls S, ifE (G.cx (callF G tab m)) (.con (.int 2)) (.con (.int 3)) false ls S (.bl wide) = .ok (.int nw) S := by
    cases wide
    · exact ⟨3, by omega, fun ls S => by walk_at "ev"⟩
    · exact ⟨2, by omega, fun ls S => by walk_at "ev"⟩
  unfold lawB
  rw [tpl_e] at hlong hlong2 ⊢
  walk_at "ev"
  rw [comp0_one (e := Fld.e) (g := fun f => .int f.mo)]
  · rw [show (t.fs.map fun f => D.int f.mo) = (t.fs.map Fld.mo).map D.int from by rw [List.map_map]; rfl]
    walk_at "ev"
    rw [rngL0, ← tpl_e]
    refine use_for (e := fun (k : Nat) => .int k) (P := fun r => ∃ S', sqB _ _ r = .rt (.bl true) S') (fun pre ls S' => ∃ (t1 : Int) (o8 o16 o17 : Option D), ls = [o0, some (.loc 0), some (.bl wide), some (.int t.fs.length), some t.e, some rows, some (.lst ((t.fs.map Fld.mo).map D.int)), some (.int g), o8, none, none, none, none, none, o14, o15, o16, o17, none, none, none] ∧ S' = Jb t1 cs :: T ∧ t0 ≤ t1 ∧ t1 ≤ t0 + 2 * pre.length) ⟨t0, _, _, _, rfl, rfl, by omega, by simp⟩ ?_ ?_
    · rintro pre k post _ _ he ⟨t1, o8, o16, o17, rfl, rfl, g1, g2⟩
      obtain ⟨hk, hkl, hpre⟩ := range_split he
      obtain ⟨a, ha, hal⟩ := drawV_nat cs t1 (n := t.fs.length) L.n0
      have hask := fun n S => ok_asked (m := m) t L.ok S (by have := L.d; omega) rows L.r hal n
      subst hk
      clear hpre he hlong hlong2 hmoL hsame hsg
      by_cases h2 : (pre.length : Int) < 2
      · walk_at "ev"
        exact ⟨t1 + 1 + 1, _, _, _, rfl, rfl, by omega, by simp; omega⟩
      · walk_at "ev"
        exact ⟨t1 + 1 + 1, _, _, _, rfl, rfl, by omega, by simp; omega⟩
    · rintro _ _ ⟨t1, o8, o16, o17, rfl, rfl, g1, g2⟩
      rw [List.length_range] at g2
      obtain ⟨a, ha, hal⟩ := drawV_nat cs t1 (n := t.fs.length) L.n0
      have hl3 : ∀ x : Int, [D.int x, .int 0, .int 9999] = [x, 0, 9999].map D.int := fun _ => rfl
      have hkw := kws_MF
      have hmo : ∀ k, k < t.fs.length → ((t.fs.map Fld.mo).map D.int)[k]? = some (.int (t.mo k)) := fun k hk => by rw [List.getElem?_map, hmoL k hk]; rfl
      clear hlong hlong2 hmoL
      walk_at "ev"
      refine use_for (e := D.int) (P := fun r => ∃ S', sqB _ _ r = .rt (.bl true) S') (fun pre ls S' => ∃ (U : Sto) (o8 o9 o18 o20 : Option D), ls = [o0, some (.loc 0), some (.bl wide), some (.int t.fs.length), some t.e, some rows, some (.lst ((t.fs.map Fld.mo).map D.int)), some (.int g), o8, o9, none, none, none, none, o14, o15, some (.int a), some (.int (g + drawV cs (t1 + 1) 3)), o18, none, o20] ∧ S' = Jb (t1 + 1 + 1) cs :: U) ⟨T, _, _, _, _, rfl, rfl⟩ ?_ ?_
      · rintro pre sz post _ _ he ⟨U, o8, o9, o18, o20, rfl, rfl⟩
        have hroom := fun S => ok_room_for (m := m) t L.ok S (by have := L.d; omega) sz
        have hmost := fun k (hk : k < t.fs.length) S => ok_most (m := m) t L.ok S (by have := L.d; omega) rows L.r hk sz
        have hrl : (roomL t sz).length ≤ 24 := by rw [roomL_eq, List.length_map]; exact Nat.le_trans (List.length_filter_le _ _) (by rw [List.length_range]; omega)
        have hsr := fun S => hsame (.tup (srtD ((roomL t sz).map D.str))) S (srt_sm _) (srt_cnt _ (by omega))
        clear hsame hsg he hwd
        walk_at "ev"
        rw [rngL0]
        refine use_for (e := fun (k : Nat) => .int k) (P := fun r => SR.goes (sqB _ _ r) _) (fun pre2 ls S' => ∃ (o8 o20 : Option D), ls = [o0, some (.loc 0), some (.bl wide), some (.int t.fs.length), some t.e, some rows, some (.lst ((t.fs.map Fld.mo).map D.int)), some (.int g), o8, some (.int sz), none, none, none, none, o14, o15, some (.int a), some (.int (g + drawV cs (t1 + 1) 3)), some (.loc (U.length + 1)), none, o20] ∧ S' = Jb (t1 + 1 + 1) cs :: (U ++ [.lst ((((List.range pre2.length).filter (roomB t sz)).map t.nm).map D.str)])) ⟨_, _, rfl, rfl⟩ ?_ ?_
        · rintro pre2 k post2 _ _ he2 ⟨o8, o20, rfl, rfl⟩
          obtain ⟨hk, hkl, hpre⟩ := range_split he2
          subst hk
          have i1 := hmo _ hkl
          have i2 := Tpl.at hkl
          have i3 := fun S => hmost _ hkl S
          have hlen : ((((List.range pre2.length).filter (roomB t sz)).map t.nm).map D.str).length ≤ 100 := by
            rw [List.length_map, List.length_map]
            exact Nat.le_trans (List.length_filter_le _ _) (by rw [List.length_range]; omega)
          have hst : ∀ b, roomB t sz pre2.length = b → (((List.range (pre2 ++ [pre2.length]).length).filter (roomB t sz)).map t.nm).map D.str = (((List.range pre2.length).filter (roomB t sz)).map t.nm).map D.str ++ (if b = true then [.str (t.nm pre2.length)] else []) := fun b hb => by
            rw [List.length_append, List.length_singleton, List.range_succ, List.filter_append, List.map_append, List.map_append]
            congr 1
            cases b <;> simp [hb]
          clear hmo hmost hroom hsr he2 hpre hkw hl3
          cases ho : mostO t pre2.length sz with
          | none =>
            rw [ho, eN] at i3
            have hb : roomB t sz pre2.length = false := by unfold roomB; rw [ho]
            have hst' := hst _ hb
            clear hst
            rw [tpl_e] at i3 ⊢
            walk_at "ev"
            exact ⟨_, _, rfl, by simp⟩
          | some j =>
            rw [ho, eN] at i3
            have hb : roomB t sz pre2.length = decide (t.mo pre2.length < 1 + j) := by unfold roomB; rw [ho]
            by_cases hc : t.mo pre2.length < 1 + (j : Int)
            · have hst' := hst true (by rw [hb]; exact decide_eq_true hc)
              clear hst hb
              rw [tpl_e] at i3 ⊢
              walk_at "ev"
              exact ⟨_, _, rfl⟩
            · have hst' := hst false (by rw [hb]; exact decide_eq_false hc)
              clear hst hb
              rw [tpl_e] at i3 ⊢
              walk_at "ev"
              exact ⟨_, _, rfl, by simp⟩
        · rintro _ _ ⟨o8, o20, rfl, rfl⟩
          rw [List.length_range, ← roomL_eq]
          have h1 := srt_strs (roomL t sz)
          walk_at "ev"
          exact ⟨_, _, _, _, _, rfl, rfl⟩
      · rintro _ _ ⟨U, o8, o9, o18, o20, rfl, rfl⟩
        have hm0 := fun S => ok_most_for (m := m) t L.ok S (by have := L.d; omega) hal 0
        rw [most0 L.ok hal, eN] at hm0
        have hsn := fun S => hsame .non S rfl (by simp [D.cnt])
        have i2 := Tpl.at hal
        obtain ⟨nm, hnm, e1⟩ := drawV_at cs (t1 + 1 + 1) (xs := [[110, 111, 98, 111, 100, 121, 57], [], [110, 111, 110, 101], [65]]) (n := 4) rfl (by decide)
        obtain ⟨w, hw, e2⟩ := drawV_at cs (t1 + 1 + 1 + 1) (xs := [(0 : Int), 41, -1, 40]) (n := 4) rfl (by decide)
        have i3 : atI ([([110, 111, 98, 111, 100, 121, 57] : Tx), [], [110, 111, 110, 101], [65]].map D.str) (drawV cs (t1 + 1 + 1) 4) = some (.str nm) := by rw [atI_map, e1]; rfl
        have i4 : atI ([(0 : Int), 41, -1, 40].map D.int) (drawV cs (t1 + 1 + 1 + 1) 4) = some (.int w) := by rw [atI_map, e2]; rfl
        have i5 : [D.str [110, 111, 98, 111, 100, 121, 57], .str [], .str [110, 111, 110, 101], .str [65]] = [([110, 111, 98, 111, 100, 121, 57] : Tx), [], [110, 111, 110, 101], [65]].map D.str := rfl
        have i6 : [D.int 0, .int 41, .int (-1), .int 40] = [(0 : Int), 41, -1, 40].map D.int := rfl
        have hnn : nm ∉ t.fs.map Fld.nm := fun hc => by
          obtain ⟨f, hf, e⟩ := List.mem_map.mp hc
          exact L.nm f hf (by rw [e]; exact hnm)
        have r1 := fun n S => refused0n (m := m) t L.ok S (by omega) hnn n
        have r2 := fun n S => refused1n (m := m) t L.ok S (by omega) hnn n
        clear e1 e2 hsg hwd hl3 hmo
        by_cases hw40 : w = 40
        · subst hw40
          have r3 := fun S => refused1 (m := m) t L.ok S (by omega) hal 40 (by omega) (by omega)
          have r4 := fun S => ok_changed (m := m) t S (by omega) L.ok.nf hal 40
          have hw4 := wm_ok L.ok hal (x := 40) (by omega) (by omega)
          have hs3 := fun S => hsame (.tup [.tup [.str sRef, .str sF], .tup [.str sRef, .str sF], .tup [.str sTold, (t.wm a 40).e]]) S (by simp [D.sm, sms, tpl_sm]) (by have := tpl_cnt hw4; simp [D.cnt, cnts]; omega)
          clear hsame hw hw4
          rw [tpl_e] at hm0 r1 r2 r3 r4 ⊢
          walk_at "ev"
          exact ⟨_, rfl⟩
        · have r3 := fun S => refused1m (m := m) t L.ok S (by omega) hal w (fun h => by
            simp at hw
            rcases hw with h1 | h1 | h1 | h1 <;> omega)
          have hs3 := fun S => hsame (.tup [.tup [.str sRef, .str sF], .tup [.str sRef, .str sF], .tup [.str sRef, .str [109, 111, 115, 116]]]) S rfl (by simp [D.cnt, cnts])
          clear hsame hw
          rw [tpl_e] at hm0 r1 r2 r3 ⊢
          walk_at "ev"
          exact ⟨_, rfl⟩
  · intro f hf
    rw [fld3_e]
    walk_at "ev"
  · omega
end K87
end Ev
/-! P87n: the law, whole. -/
namespace Ev
namespace K87
open PySem L2
local macro_rules | `(tactic| walk_at "ev") => `(tactic| simp -implicitDefEqProofs (disch := first | assumption | omega | exact Nat.zero_le _ | (simp only [List.length_nil, List.length_cons, List.length_append, List.length_map, List.length_replicate, List.length_reverse, List.length_range]; omega)) only [varO_s, consO_s, setL_0, setL_s, asg_one, asg_tup, asgs_nil, asgsK_s, asgs_cons, setK_s, setAll_nil, setAll_cons, wipeN_0, wipeN_s, wipe_nil, wipe_cons, mkTup_ok, mkLst_ok, mkDic_ok, mkLive_l, negD_i, notD_b, revD_l, kwA_s, kwD_s, addA_ok, gixO_s, asI_i, rng1D_ok, rng2D_ok, putO_s, raiO_ok, nxO_s, ifE_t, ifE_f, ifS_t, ifS_f, andE_t, andE_f, orE_t, orE_f, kTup_k, kTup_x, kLst_k, kLst_x, kLive_k, kLive_x, kDic_k, kDic_x, kBin2_k, kBin2_x, kBin1_k, kBin1_x, kNeg_k, kNeg_x, kNot_k, kNot_x, kCmp2_k, kCmp2_x, kCmp1_k, kCmp1_x, chnO_t, chnO_f, kChn2_k, kChn2_x, kChn1_k, kChn1_x, kIf_k, kIf_x, kAnd_k, kAnd_x, kOr_k, kOr_x, kIdx2_k, kIdx2_x, kIdx1_k, kIdx1_x, kSlc3_k, kSlc3_x, kSlc2_k, kSlc2_x, kSlc1_k, kSlc1_x, kRev_k, kRev_x, kCal_k, kCal_x, kKw_k, kKw_x, kIsi_k, kIsi_x, kBlt_k, kBlt_x, kMth2_k, kMth2_x, mthG_t, kMth1_k, kMth1_x, kGix_k, kGix_x, kEs2_k, kEs2_x, kEs1_k, kEs1_x, kAsI_k, kAsI_x, kSeq_k, kSeq_x, kRng1_k, kRng1_x, kRng2b_k, kRng2b_x, kRng2a_k, kRng2a_x, kEnu2_k, kEnu2_x, kEnu1_k, kEnu1_x, kZip4_k, kZip4_x, kZip3_k, kZip3_x, kZip2_k, kZip2_x, kZip1_k, kZip1_x, kRvs2_k, kRvs2_x, kRvs1_k, kRvs1_x, addK_k, ifC_t, ifC_f, ifCK_k, turn0_s, turn1_s, turnS_s, kLstR_k, kComp0_k, kComp0_x, kComp1_k, kComp1_x, sExpr_k, sExpr_x, sSet_k, sSet_x, sPar_k, sPar_x, sPut3_k, sPut3_x, sPut2_k, sPut2_x, sPut1_k, sPut1_x, sIf_k, sIf_x, sFor_k, sFor_x, sRet_k, sRet_x, sRai_k, sRai_x, sqB_nx, sqB_rt, sqB_bk, sqB_ct, sqB_x, tryK_nx, tryK_rt, s_try, e_var, e_con, e_glb, e_tup, e_lst, e_dsp, e_live, e_bin, e_neg, e_nt, e_cmp, e_chn, e_and, e_or, e_ite, e_idx, e_slc, e_rev, e_cal, e_calk, e_isi, e_blt, e_mth, e_comp0, e_comp1, e_gix, es_nil, es_cons, ep_no, ep_so, ea_1, ea_2, eo_1, eo_2, ei_seq, ei_rng1, ei_rng2, ei_enu, ei_zip, ei_rvs, s_expr, s_set, s_par, s_put, s_ifs, s_whl, s_for, s_ret, s_retn, s_brk, s_cnt, s_pas, s_rai, b_nil, b_cons, cx_cal, cx_glb, cx_gdc, cx_kws, cx_fld, cx_sub, cx_fuel, leave_rt, leave_nx, leave_exc, drf_tup, drf_lst, drf_ro, drfq_str, drfq_int, drfq_bl, drfq_non, drf_dic, drf_loc, drO_l, bin_add_i, bin_add_s, bin_add_t, bin_add_l, addO_ok, bin_sub_i, bin_mul_i, bin_mul_s, bin_fdiv_i, bin_mod_i, idx_r, idxR_t, idxR_l, idxR_r, idxR_d, at_n, at_0, at_1, at_2, at_3, at_4, at_5, at_m1, len_l, len_t, len_r, len_s, len_loc, lenR_l, seqD_l, seqD_t, seqD_r, seqD_loc, seqR_l, tup_q, lst_q, srcD_l, srcD_t, srcD_r, srcD_s, srcQ_l, srcQ_t, srcD_loc, srcO_l, cmp_eq, cmp_ne, cmp_isN, cmp_isnN, isNon_n, isNon_i, isNon_s, isNon_t, isNon_l, isNon_o, cmp_in, cmp_nin, cmp_lt_i, cmp_le_i, cmp_gt_i, cmp_ge_i, cmp_le_s, cmp_lt_s, eq_i, eq_s, eq_b, eq_si, eq_is, tru_b, tru_i, tru_n, isi_t_tuple, isi_t_list, isi_t_str, isi_t_int, isi_t_bool, isi_l_tuple, isi_l_list, isi_l_str, isi_l_int, isi_l_bool, isi_s_tuple, isi_s_list, isi_s_str, isi_s_int, isi_s_bool, isi_i_tuple, isi_i_list, isi_i_str, isi_i_int, isi_i_bool, isi_b_tuple, isi_b_list, isi_b_str, isi_b_int, isi_b_bool, isiq_n, isL_l, ty_append, ty_extend, ty_pop, ty_index, ty_join, m_append, appO_ok, m_extend, extO_ok, m_pop, popO_ok, st_get0, st_get1, st_get2, st_get3, st_set0, st_set1, st_set2, st_app, st_len, fin_f, fin_tk, fin_tx, Res.nox_ok, Res.nox_exc, ofO_some, ofO_none, reo, List.getElem?_cons_zero, List.getElem?_cons_succ, List.length_cons, List.length_nil, List.cons_append, List.nil_append, Option.map_some, Option.map_none, List.getLast?_cons_cons, List.getLast?_singleton, decide_true, decide_false, Bool.not_true, Bool.not_false, Nat.zero_add, Nat.reduceAdd, Nat.reduceLeDiff, Nat.reduceLT, Int.reduceNeg, List.length_map, if_true, if_false, goes_nx, goes_ct, ends_nx, ends_ct, ends_rt, reduceCtorEq, false_and, and_false, and_true, true_and, Bool.and_true, Bool.and_false, eqS_nn, eqS_nc, eqS_cn, eqS_cc, eqS_self, Nat.reduceBEq, Bool.true_and, Bool.false_and, beq_self_eq_true, slc_r, slcR_t, slcR_l, slcR_r, slcR_s, cut_hi, cut_lo, toNat_s, srt_r, in_tup, m_index, ixO_s, Int.reduceToNat, Int.toNat_natCast, Int.reduceSub, Int.reduceAdd, List.take_succ_cons, List.take_zero, List.drop_succ_cons, List.drop_zero, Int.reduceLT, Int.reduceLE, cast_0, cast_1, Int.cast_ofNat_Int, bin_add_loc, addR_l, eq_self, isNon_b, isNon_r, isNon_d, put_loc, putR_0, putR_n, in_str1, Int.reduceEq, List.set_cons_zero, List.set_cons_succ, int1_i, min2_i, max2_i, okP_ok, cut_m1, Nat.reduceSub, Nat.add_one_sub_one, evOn_s, gd_nil, gdS_nil, fld_e, row_e, eit_e, eO_none, eO_some, leave_rt, leave_nx, leave_exc, *])
theorem flatMap_cg {α β : Type} {f g : α → List β} : ∀ {l : List α}, (∀ x ∈ l, f x = g x) → l.flatMap f = l.flatMap g
  | [], _ => rfl
  | x :: l, h => by rw [List.flatMap_cons, List.flatMap_cons, h x (by simp), flatMap_cg fun y hy => h y (by simp [hy])]
theorem flds_mv (b : Nat) : ∀ p : Part, (p.mv b).flds = p.flds.map (· + b) := by
  intro p
  induction p using Part.ind with
  | hf k x y => rfl
  | hr x s l y ps ih =>
    rw [Part.mv, Part.flds, Part.flds, fldss_eq, fldss_eq, mvs_map, List.flatMap_map, List.map_flatMap]
    exact flatMap_cg ih
  | he ps ih =>
    rw [Part.mv, Part.flds, Part.flds, fldss_eq, fldss_eq, mvs_map, List.flatMap_map, List.map_flatMap]
    exact flatMap_cg ih
theorem ok_mv {n b : Nat} : ∀ {p : Part}, p.ok n → (p.mv b).ok (n + b) := by
  intro p
  induction p using Part.ind with
  | hf k x y => intro h; rw [Part.ok] at h; rw [Part.mv, Part.ok]; exact ⟨by omega, h.2⟩
  | hr x s l y ps ih =>
    intro h
    rw [row_ok] at h
    rw [Part.mv, row_ok, mvs_map]
    refine ⟨h.1, h.2.1, h.2.2.1, h.2.2.2.1, by simpa using h.2.2.2.2.1, by simpa using h.2.2.2.2.2.1, fun p hp => ?_⟩
    obtain ⟨q, hq, rfl⟩ := List.mem_map.mp hp
    exact ih q hq (h.2.2.2.2.2.2 q hq)
  | he ps ih =>
    intro h
    rw [eit_ok] at h
    rw [Part.mv, eit_ok, mvs_map]
    refine ⟨by simpa using h.1, by simpa using h.2.1, fun p hp => ?_⟩
    obtain ⟨q, hq, rfl⟩ := List.mem_map.mp hp
    exact ih q hq (h.2.2 q hq)
theorem ok_mono {n n' : Nat} (hn : n ≤ n') : ∀ {p : Part}, p.ok n → p.ok n' := by
  intro p
  induction p using Part.ind with
  | hf k x y => intro h; rw [Part.ok] at h ⊢; exact ⟨by omega, h.2⟩
  | hr x s l y ps ih =>
    intro h
    rw [row_ok] at h ⊢
    exact ⟨h.1, h.2.1, h.2.2.1, h.2.2.2.1, h.2.2.2.2.1, h.2.2.2.2.2.1, fun p hp => ih p hp (h.2.2.2.2.2.2 p hp)⟩
  | he ps ih =>
    intro h
    rw [eit_ok] at h ⊢
    exact ⟨h.1, h.2.1, fun p hp => ih p hp (h.2.2 p hp)⟩
mutual
theorem dp_mv (b : Nat) : ∀ p : Part, (p.mv b).dp = p.dp
  | .fld _ _ _ => rfl
  | .row _ _ _ _ ps => by rw [Part.mv, Part.dp, Part.dp, dps_mv b ps]
  | .eit ps => by rw [Part.mv, Part.dp, Part.dp, dps_mv b ps]
theorem dps_mv (b : Nat) : ∀ ps : List Part, dps (mvs b ps) = dps ps
  | [] => rfl
  | p :: ps => by rw [mvs, dps, dps, dp_mv b p, dps_mv b ps]
end
mutual
theorem size_mv (b : Nat) : ∀ p : Part, (p.mv b).size = p.size
  | .fld _ _ _ => rfl
  | .row _ _ _ _ ps => by rw [Part.mv, Part.size, Part.size, sizes_mv b ps]
  | .eit ps => by rw [Part.mv, Part.size, Part.size, sizes_mv b ps]
theorem sizes_mv (b : Nat) : ∀ ps : List Part, sizes (mvs b ps) = sizes ps
  | [] => rfl
  | p :: ps => by rw [mvs, sizes, sizes, size_mv b p, sizes_mv b ps]
end
/-- "n0" .. "n11" -/
def digT : List Tx := [[48], [49], [50], [51], [52], [53], [54], [55], [56], [57], [49, 48], [49, 49]]
def nn (k : Nat) : Tx := [110] ++ (digT[k]?).getD []
theorem dig_eq : ∀ k : Fin 12, (Str.ofString (toString ((k.val : Nat) : Int))).cps.toList = (digT[k.val]?).getD [] := by decide +kernel
theorem dig_log : ∀ k : Fin 12, ((k.val : Nat) : Int).natAbs.log2 < 1920 := by decide +kernel
theorem dig_len : ∀ k : Fin 12, ((digT[k.val]?).getD []).length ≤ 2 := by decide
theorem nn_ok : ∀ k : Fin 12, nn k.val ≠ [] ∧ (nn k.val).length ≤ 8 ∧ nn k.val ∉ poolT ∧ nn k.val ∉ [[110, 111, 98, 111, 100, 121, 57], [], [110, 111, 110, 101], [65]] := by decide
theorem nn_inj : ∀ j k : Fin 12, nn j.val = nn k.val → j = k := by decide
theorem pool_no : ∀ x ∈ poolT, x ∉ [[110, 111, 98, 111, 100, 121, 57], [], [110, 111, 110, 101], [65]] := by decide
def wideT (t o : Tpl) (x : Tx) : Tpl := ⟨t.fs ++ (List.range 12).map fun k => ⟨nn k, o.kd k, o.mo k⟩, .row [] x none [] [t.pt, o.pt.mv 12], []⟩
theorem wide_law {t o : Tpl} {x : Tx} (ht : t.ok) (ho : o.ok) (hx : x.length ≤ 12) (h12 : t.fs.length = 12) (o12 : o.fs.length = 12) (hp : ∀ f ∈ t.fs, f.nm ∈ poolT) (d1 : t.pt.dp ≤ 3) (d2 : o.pt.dp ≤ 3) (s1 : t.pt.size ≤ 100) (s2 : o.pt.size ≤ 100) : LawT (wideT t o x) .non := by
  have hlen : (wideT t o x).fs.length = 24 := by simp [wideT, h12]
  have hdp : (wideT t o x).pt.dp ≤ 4 := by
    show max t.pt.dp (max (o.pt.mv 12).dp 0) + 1 ≤ 4
    rw [dp_mv]; omega
  refine ⟨⟨by rw [hlen]; omega, ?_, ?_, ?_, ?_, by omega, by simp [wideT], ?_⟩, .inl rfl, by rw [hlen]; omega, ?_, hdp⟩
  · intro f hf
    rcases List.mem_append.mp hf with hf | hf
    · exact ht.f f hf
    · obtain ⟨k, hk, rfl⟩ := List.mem_map.mp hf
      have hk := List.mem_range.mp hk
      have h1 := ho.at (k := k) (by omega)
      rw [Tpl.kd_eq (t := o) (by omega), Tpl.mo_eq (t := o) (by omega)]
      exact ⟨h1.1, h1.2.1, h1.2.2.1, (nn_ok ⟨k, hk⟩).1, (nn_ok ⟨k, hk⟩).2.1⟩
  · show ((t.fs ++ _).map Fld.nm).Nodup
    rw [List.map_append, List.nodup_append, List.map_map]
    refine ⟨ht.nd, ?_, fun a ha b hb => ?_⟩
    · rw [List.Nodup, List.pairwise_map]
      refine List.nodup_range.imp_of_mem fun {a b} ha hb hab e => hab ?_
      have ha := List.mem_range.mp ha
      have hb := List.mem_range.mp hb
      exact congrArg Fin.val (nn_inj ⟨a, ha⟩ ⟨b, hb⟩ e)
    · obtain ⟨f, hf, rfl⟩ := List.mem_map.mp ha
      obtain ⟨k, hk, rfl⟩ := List.mem_map.mp hb
      have hk := List.mem_range.mp hk
      intro e
      exact (nn_ok ⟨k, hk⟩).2.2.1 (by rw [show nn k = f.nm from e.symm]; exact hp f hf)
  · rw [hlen]
    show (Part.row [] x none [] [t.pt, o.pt.mv 12]).ok 24
    rw [row_ok]
    refine ⟨by simp, hx, hx, by simp, by simp, by simp, fun p hp => ?_⟩
    simp only [List.mem_cons, List.not_mem_nil, or_false] at hp
    rcases hp with rfl | rfl
    · exact ok_mono (by omega) ht.p
    · have := ok_mv (b := 12) ho.p
      rw [o12] at this; exact this
  · rw [hlen]
    show fldss [t.pt, o.pt.mv 12] = _
    rw [fldss_eq, List.flatMap_cons, List.flatMap_cons, List.flatMap_nil, List.append_nil, flds_mv, ht.fl, ho.fl, h12, o12]
    decide
  · show t.pt.size + ((o.pt.mv 12).size + 0) + 1 ≤ 1000
    rw [size_mv]; omega
  · intro f hf
    rcases List.mem_append.mp hf with hf | hf
    · exact pool_no _ (hp f hf)
    · obtain ⟨k, hk, rfl⟩ := List.mem_map.mp hf
      exact (nn_ok ⟨k, List.mem_range.mp hk⟩).2.2.2
theorem ok_law {m : Nat} (ns : List Int) (hn : ns.length ≤ 63) (hm : 16 ≤ m) : callF G tab m "law" [.ro (ns.map D.int)] [] = .ok (.bl true) [] := by
  obtain ⟨m, rfl⟩ := lev hm
  obtain ⟨cs, hc, hj⟩ := ok_jar (m := m) ns hn [] (by omega)
  rw [List.nil_append] at hj
  have hdr := fun (t : Int) (T : Sto) (many : Int) (ht : 0 ≤ t ∧ t < 1152921504606846976) (h0 : 0 < many) => ok_draw (m := m) hc t many T (by omega) ht h0
  rw [u_law]
  show leave (.trim 9) [] (evB (G.cx (callF G tab m)) (.cons (.set (.one 1) (.cal "_law_jar" (.cons (.var 0) .nil))) (.cons (.set (.one 2) (.cmp .Eq (.cal "_law_draw" (.cons (.var 1) (.cons (.con (.int 13)) .nil))) (.con (.int 8)))) (.cons (.set (.one 3) (.ite (.var 2) (.con (.int 24)) (.bin .Add (.con (.int 1)) (.cal "_law_draw" (.cons (.var 1) (.cons (.con (.int 6)) .nil)))))) (.cons (.set (.one 4) (.cal "_law_template" (.cons (.var 1) (.cons (.blt .min2 (.cons (.var 3) (.cons (.con (.int 12)) .nil))) (.cons (.bin .Add (.con (.int 1)) (.cal "_law_draw" (.cons (.var 1) (.cons (.ite (.var 2) (.con (.int 2)) (.con (.int 3))) .nil)))) .nil))))) (.cons (.ifs (.var 2) (.cons (.set (.one 14) (.cal "_law_template" (.cons (.var 1) (.cons (.con (.int 12)) (.cons (.con (.int 2)) .nil))))) (.cons (.set (.one 15) (.blt .tuple (.cons (.comp [8] (.one 8) (.rng1 (.con (.int 12))) .no (.tup (.cons (.bin .Add (.con (.str [110])) (.blt .str1 (.cons (.var 8) .nil))) (.cons (.idx (.idx (.idx (.var 14) (.con (.int 0))) (.var 8)) (.con (.int 1))) (.cons (.idx (.idx (.idx (.var 14) (.con (.int 0))) (.var 8)) (.con (.int 2))) .nil))))) .nil))) (.cons (.set (.one 4) (.tup (.cons (.bin .Add (.idx (.var 4) (.con (.int 0))) (.var 15)) (.cons (.tup (.cons (.con (.str [114, 111, 119])) (.cons (.con (.str [])) (.cons (.cal "_law_text" (.cons (.var 1) .nil)) (.cons (.con .non) (.cons (.con (.str [])) (.cons (.tup (.cons (.idx (.var 4) (.con (.int 1))) (.cons (.cal "_law_moved" (.cons (.idx (.var 14) (.con (.int 1))) (.cons (.con (.int 12)) .nil))) .nil))) .nil))))))) (.cons (.con (.str [])) .nil))))) .nil))) .nil) (.cons (.set (.one 5) (.ite (.var 2) (.con .non) (.cal "_law_rows" (.cons (.var 4) .nil)))) lawB)))))) [some _, none, none, none, none, none, none, none, none, none, none, none, none, none, none, none, none, none, none, none, none] []) = _
  have fin : ∀ r : SR, (∃ S', r = .rt (.bl true) S') → leave (.trim 9) [] r = .ok (.bl true) [] := by
    rintro _ ⟨S', rfl⟩
    have := leave_bel (k := 9) (S := []) (T := S') (d := .bl true) rfl
    simpa using this
  apply fin
  clear fin
  by_cases hw : drawV cs 0 13 = 8
  · obtain ⟨k2, h2, h2l⟩ := drawV_nat cs 1 (n := 2) (by decide)
    have h2' : drawV cs 1 2 = k2 := h2
    obtain ⟨t, t1, ht, hl, hp, hd, hs, g1, g2, hcall⟩ := ok_template (m := m) hc 12 (k2 + 1) 2 [] (by omega) (by omega) (by omega) (by omega) (by omega) (by omega) (by omega)
    obtain ⟨o, t2, ho, hl2, hp2, hd2, hs2, g3, g4, hcall2⟩ := ok_template (m := m) hc 12 2 t1 [] (by omega) (by omega) (by omega) (by omega) (by omega) (by omega) (by omega)
    have htx := ok_text (m := m) hc t2 [] (by omega) (by omega)
    have hmv := fun S => ok_moved (m := m) (b := 12) o.pt S (by omega) ho.p
    have c2 : (1 + (k2 : Int)) = ((k2 + 1 : Nat) : Int) := by omega
    have c3 : ((12 : Int) < 24) = True := eq_true (by omega)
    have L := wide_law ht ho (textV_len cs t2) hl hl2 hp (by omega) (by omega) hs hs2
    have hrest := law_rest (m := m) hc (by omega) (wideT t o (textV cs t2)) .non L true
    have hlt : (t.fs.map Fld.e).length ≤ 24 := by rw [List.length_map]; omega
    have hcall' : callF G tab m "_law_template" [.loc 0, .int 12, .int (k2 + 1 : Nat)] (Jb 2 cs :: []) = .ok t.e (Jb t1 cs :: []) := hcall
    have hcall2' : callF G tab m "_law_template" [.loc 0, .int 12, .int 2] (Jb t1 cs :: []) = .ok o.e (Jb t2 cs :: []) := hcall2
    have hmv' : ∀ S, callF G tab m "_law_moved" [o.pt.e, .int 12] S = .ok (o.pt.mv 12).e S := hmv
    clear h2 hcall hcall2 hmv
    rw [tpl_e] at hcall' hcall2'
    walk_at "ev"
    rw [rngL0, comp0_one (e := fun (k : Nat) => .int k) (g := fun k => .tup [.str (nn k), .str (o.kd k), .int (o.mo k)])]
    · have hl15 : ((List.range 12).map fun k => D.tup [.str (nn k), .str (o.kd k), .int (o.mo k)]).length ≤ 24 := by simp
      have hwe : (wideT t o (textV cs t2)).e = .tup [.tup (t.fs.map Fld.e ++ (List.range 12).map fun k => D.tup [.str (nn k), .str (o.kd k), .int (o.mo k)]), .tup [.str sR, .str [], .str (textV cs t2), .non, .str [], .tup [t.pt.e, (o.pt.mv 12).e]], .str []] := by
        rw [tpl_e]
        unfold wideT
        rw [List.map_append, List.map_map, row_e]
        rfl
      have hl24 : (((wideT t o (textV cs t2)).fs.length : Nat) : Int) = 24 := by simp [wideT, hl]
      rw [hwe, hl24] at hrest
      clear hwe hl24
      walk_at "ev"
    · intro k hk
      have hk := List.mem_range.mp hk
      have e1 := dig_eq ⟨k, hk⟩
      have e2 := dig_log ⟨k, hk⟩
      have e3 := dig_len ⟨k, hk⟩
      dsimp only at e1 e2 e3
      have e6 := fun S => str1_r S ((k : Nat) : Int) e2
      rw [e1] at e6
      have e4 := Tpl.at (t := o) (k := k) (by omega)
      have e5 : ([110] : Tx).length + ((digT[k]?).getD []).length ≤ 16777216 := by simp; omega
      clear hrest hcall' hcall2' hmv' htx hdr
      walk_at "ev"
      rfl
    · simp
  · obtain ⟨k6, h6, h6l⟩ := drawV_nat cs 1 (n := 6) (by decide)
    obtain ⟨k3, h3, h3l⟩ := drawV_nat cs 2 (n := 3) (by decide)
    have h6' : drawV cs 1 6 = k6 := h6
    have h3' : drawV cs 2 3 = k3 := h3
    obtain ⟨t, t1, ht, hl, hp, hd, hs, g1, g2, hcall⟩ := ok_template (m := m) hc (k6 + 1) (k3 + 1) 3 [] (by omega) (by omega) (by omega) (by omega) (by omega) (by omega) (by omega)
    have c1 : (1 + (k6 : Int)) = ((k6 + 1 : Nat) : Int) := by omega
    have c2 : (1 + (k3 : Int)) = ((k3 + 1 : Nat) : Int) := by omega
    have c3 : ((12 : Int) < ((k6 + 1 : Nat) : Int)) = False := eq_false (by omega)
    have hrows := fun S => ok_rows (m := m) t ht S (by omega) (by omega) (fun k hk => by rw [ht.fl]; exact List.mem_range.mpr hk) (fun k hk => by rw [ht.fl] at hk; exact List.mem_range.mp hk)
    have L : LawT t (.lst ((rowsOf t.pt t.fs.length).map eB)) := ⟨ht, .inr ⟨rfl, by omega, by omega⟩, by omega, fun f hf => pool_no _ (hp f hf), by omega⟩
    have hrest := law_rest (m := m) hc (by omega) t _ L false
    clear h6 h3
    rw [hl] at hrest
    walk_at "ev"
end K87
end Ev
set_option maxHeartbeats 0
/-! K87z: the end. -/
namespace Ev
namespace K87
open PySem PySem.Spec PyProof.Rows L2
theorem ro_reps {K : PySem.W.Frag} {φ : List Addr} {L : Addr → Prop} {H : Hp} : ∀ ns : List Int, Reps K φ L H (ns.map D.int) (ns.map V.int)
  | [] => .nil
  | n :: ns => .cons (.int n) (ro_reps ns)
def spLaw (K : PySem.W.Frag) : Sp := fun vs H Q _ => ∃ (a : Addr) (ns : List Int), vs = [.ref a] ∧ ns.length ≤ 63 ∧ SqL K H a (ns.map V.int) ∧ ∀ H', Q (.bl true) H'
theorem fn_mono {P : Program} {w : PySem.World} {K : PySem.W.Frag} {mg : Str → Option Value} {base : Heap} {k : Nat} {f : Addr} {fd : FuncData} {ps : List Str} {CX : CXT} {sp sp' : Sp} (F : FnOk P w K mg base CX k f fd ps sp) (h : ∀ vs H Q E, sp' vs H Q E → sp vs H Q E) : FnOk P w K mg base CX k f fd ps sp' :=
  ⟨fun vs H Q E q => F.len vs H Q E (h _ _ _ _ q), fun A outer s H args us vs Q E hr e0 hb hv q => F.run A outer s H args us vs Q E hr e0 hb hv (h _ _ _ _ q)⟩
theorem facts {P : Program} {w : PySem.World} {K : PySem.W.Frag} {h : Heap} {mg : Str → Option Value} {f : Addr} (X : K.In h) (Gn : h.Ns mainGlobals mg) (hfa : mg ("law" : Str) = some (.ref f)) (c : SaysX fa fnX ts ex w K) :
    ∃ fd : FuncData, (∀ (s : Shared) (v : Value), BindsTo s fd ⟨[v], []⟩ [("script", v)]) ∧ ∀ base : Heap, K.In base → base.Ns mainGlobals mg → FnOk P w K mg base CX0 23 f fd ["script"] (spLaw K) := by
  obtain ⟨fd, F⟩ := c.t.d.def_ 0 (d := d_law) rfl
  have e := hfa.symm.trans (He.glo_ok X Gn (c.t.d.fact 0 (f := .glo "law") rfl))
  cases e
  have b := FunD.bindsA (ps := ["script"]) F fun _ _ _ _ _ _ us hl => match us, hl with | [_], _ => rfl
  refine ⟨fd, fun s v => b s [v] rfl, fun base Xb Gb => ?_⟩
  have T : StOk P w K mg base G tab := st_ok X Gn c
  have F1 := def_ok (df := f_law) F s_law (by rfl) (by rfl) c_law (env_ok T 19) (by decide)
  refine fn_mono (fn_cx0 F1) fun vs H Q E q => ?_
  obtain ⟨a, ns, rfl, hl, hS, hQ⟩ := q
  refine ⟨[], [], fun _ => False, [.ro (ns.map D.int)], ?_, ?_, ?_⟩
  · exact ⟨rfl, .nil, fun l o hl => by simp at hl, fun a h => h.elim, fun a h => h.elim, fun a h => by cases h⟩
  · refine .cons (.ro ?_ (ro_reps ns)) .nil
    rcases hS with hS | hS
    · refine .inl ⟨hS, ?_⟩
      rintro (⟨l, o, h1, _⟩ | h)
      · simp at h1
      · exact h
    · exact .inr hS
  · have e := ok_law (m := 20) ns hl (by decide)
    rw [callF_s (f := f_law) (by rfl)] at e
    dsimp only
    rw [e]
    intro φ' H' v _ _ r
    cases r
    exact hQ H'
end K87
end Ev
open PySem PySem.W PySem.Calls PyProof.Rows
theorem PySem.Challenge.cw_threegiven_k87_whole_room_greatest_lengt_holds : PySem.Challenge.rw_threegiven_k87_whole_room_greatest_lengt.Holds := by
  w_on; o_law
  refine HandSHeadRun.head_any (r := OpenLaw.row PySem.Challenge.rw_threegiven_k87_whole_room_greatest_lengt) (q := view (OpenLaw.row PySem.Challenge.rw_threegiven_k87_whole_room_greatest_lengt).prog [72]) (H := Ev.K87.hk) (ob := Ev.K87.ob) (M := 3000) (loose := Ev.K87.loose) (d := HandSHeadRun.topDef (OpenLaw.row PySem.Challenge.rw_threegiven_k87_whole_room_greatest_lengt).prog 72) (kwd := []) Ev.K87.ob_eq
    (by kernel_rfl) (fun s => by kernel_rfl) Ev.K87.run (by kernel_rfl) (by kernel_rfl) (by kernel_rfl) (by rfl) (by first | assumption | decide +kernel) (by decide +kernel) ⟨rfl, rfl, rfl, rfl, rfl, by decide +kernel⟩ ?hw ?hc
  case hw => w_witness2
  case hc =>
    refine L2.walk_ofE (l := PySem.Challenge.rw_threegiven_k87_whole_room_greatest_lengt) (n := 63) (k := 23) (x := "script") (CX := L2.CX0) rfl (by decide) (by kernel_rfl) ⟨rfl, by decide, by decide⟩ ?F (fun _ _ _ _ z => z)
    intro w mg fa h Y G hmg0
    obtain ⟨K, KX, c⟩ := Y
    have hmg : mg ("law" : PySem.Str) = some (.ref fa) := by
      have e : (HandSHeadRun.topDef (OpenLaw.row PySem.Challenge.rw_threegiven_k87_whole_room_greatest_lengt).prog 72).name = ("law" : PySem.Str) := by kernel_rfl
      rw [← e]
      exact hmg0
    obtain ⟨fd, hb, hF⟩ := Ev.K87.facts (P := (PySem.Challenge.rw_threegiven_k87_whole_room_greatest_lengt).prog) (w := w) KX G hmg c
    exact ⟨K, fd, Ev.K87.spLaw K, KX, hb, fun H a ns hl _ hS => ⟨a, ns, rfl, hl, hS, fun _ => rfl⟩, hF⟩
