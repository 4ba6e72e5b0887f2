import PyProof.Rows.All
import Wide.All
import OpenK.AllK
import Wide.FinOn
import HandS.ForMost
import HandS.Exc
import HandS.ExcOwn
import HandS.WordsExc
import HandS.TupAny
import HandS.TupLe
import HandS.Wide
import HandS.IsInst
import HandS.Deep
import HandS.TupMul
import KE.KExcSuper
import KE.KSuper
import HandS.ExcField
import HandS.TryOnly
import PySem.Challenge.RW_playrolled_k18_whole_numbers_and_seals
set_option Elab.async false
set_option linter.all false
set_option maxRecDepth 100000
set_option maxHeartbeats 4000000
/-! A layer of plain data over the hand layer. -/
namespace DL
open PySem L2

/-! ### values, memory, worlds -/
/-- plain data; a mutable object by its number; a slot of which nothing is said; a value as it is -/
inductive DV where
  | val (d : PyData)
  | ref (i : Nat)
  | raw (v : V) (p : PySem.W.Frag → Hp → Prop)
  | no
/-- a mutable object: let go; a list of data; anything else by what is true of it (the stable heap, the heap, its own addresses) -/
inductive MO where
  | gone
  | lst (ds : List PyData)
  | res (φ : PySem.W.Frag → Hp → Hp → List Addr → Prop)
abbrev Mem := List MO
abbrev Sl := List DV

def slot : Sl → Nat → DV
  | [], _ => .no
  | d :: _, 0 => d
  | _ :: r, n + 1 => slot r n
def put : Sl → Nat → DV → Sl
  | [], _, _ => []
  | _ :: r, 0, x => x :: r
  | d :: r, n + 1, x => d :: put r n x
def mem : Mem → Nat → MO
  | [], _ => .gone
  | m :: _, 0 => m
  | _ :: r, n + 1 => mem r n
def mput : Mem → Nat → MO → Mem
  | [], _, _ => []
  | _ :: r, 0, x => x :: r
  | m :: r, n + 1, x => m :: mput r n x
theorem put_length : ∀ (ρ : Sl) (i : Nat) (x : DV), (put ρ i x).length = ρ.length
  | [], _, _ => rfl
  | _ :: r, 0, _ => rfl
  | _ :: r, n + 1, x => congrArg (· + 1) (put_length r n x)
theorem mput_length : ∀ (M : Mem) (i : Nat) (x : MO), (mput M i x).length = M.length
  | [], _, _ => rfl
  | _ :: r, 0, _ => rfl
  | _ :: r, n + 1, x => congrArg (· + 1) (mput_length r n x)

/-- the stable part of the heap, the addresses of the mutable objects, what is hidden and stays as it is -/
structure Wd where
  S : Hp
  ad : List (List Addr)
  hd : List (Addr × HO) := []
/-- a world grows -/
structure Wd.Le (w w' : Wd) : Prop where
  s : ∀ a o, w.S a = some o → w'.S a = some o
  a : ∃ r, w'.ad = w.ad ++ r
  h : w'.hd = w.hd
theorem Wd.Le.refl (w : Wd) : w.Le w := ⟨fun _ _ h => h, ⟨[], by simp⟩, rfl⟩
theorem Wd.Le.trans {w w1 w2 : Wd} (h : w.Le w1) (k : w1.Le w2) : w.Le w2 :=
  ⟨fun a o e => k.s a o (h.s a o e), by obtain ⟨r, e⟩ := h.a; obtain ⟨r', e'⟩ := k.a; exact ⟨r ++ r', by rw [e', e, List.append_assoc]⟩, k.h.trans h.h⟩
theorem Wd.Le.ad {w w' : Wd} (h : w.Le w') {i : Nat} {as : List Addr} (e : w.ad[i]? = some as) : w'.ad[i]? = some as := by
  obtain ⟨r, q⟩ := h.a
  rw [q]
  obtain ⟨hi, e'⟩ := List.getElem?_eq_some_iff.mp e
  rw [List.getElem?_append_left hi]
  exact e
/-- a fact about a resource leans on the stable heap and its own addresses alone -/
def Local (φ : PySem.W.Frag → Hp → Hp → List Addr → Prop) : Prop := ∀ K S S' H H' as, (∀ a o, S a = some o → S' a = some o) → (∀ a ∈ as, H' a = H a) → φ K S H as → φ K S' H' as

section
variable (K : PySem.W.Frag)
theorem SqL.mono {K : PySem.W.Frag} {H H' : Hp} (h : ∀ a o, H a = some o → H' a = some o) {a : Addr} {xs : List V} (q : SqL K H a xs) : SqL K H' a xs := Same.seq h q
theorem SqT.mono {K : PySem.W.Frag} {H H' : Hp} (h : ∀ a o, H a = some o → H' a = some o) {a : Addr} {xs : List V} (q : SqT K H a xs) : SqT K H' a xs := by
  rcases q with (q | ⟨o, q⟩) | q
  · exact .inl (.inl (h _ _ q))
  · exact .inl (.inr ⟨o, h _ _ q⟩)
  · exact .inr q
mutual
/-- a value stands for data: lists are tracked by themselves -/
inductive Rp (K : PySem.W.Frag) (H : Hp) : V → PyData → Prop
  | non : Rp K H .non .none
  | bl (b : Bool) : Rp K H (.bl b) (.bool b)
  | int (i : Int) : Rp K H (.int i) (.int i)
  | str (x : Str) : Rp K H (.str x) (.str x)
  | lst {a : Addr} {xs : List V} {ds : List PyData} : H a = some (.lst xs) → RpAll K H xs ds → Rp K H (.ref a) (.list ds)
  | tup {a : Addr} {xs : List V} {ds : List PyData} : SqT K H a xs → RpAll K H xs ds → Rp K H (.ref a) (.tuple ds)
inductive RpAll (K : PySem.W.Frag) (H : Hp) : List V → List PyData → Prop
  | nil : RpAll K H [] []
  | cons {v : V} {vs : List V} {d : PyData} {ds : List PyData} : Rp K H v d → RpAll K H vs ds → RpAll K H (v :: vs) (d :: ds)
end
mutual
theorem Rp.dp {K : PySem.W.Frag} {H : Hp} : ∀ {v : V} {d : PyData}, Rp K H v d → Dp K H v d
  | _, _, .non => .non
  | _, _, .bl b => .bl b
  | _, _, .int i => .int i
  | _, _, .str x => .str x
  | _, _, .lst q r => .lst (SqL.of q) (RpAll.dp r)
  | _, _, .tup q r => .tup q (RpAll.dp r)
theorem RpAll.dp {K : PySem.W.Frag} {H : Hp} : ∀ {vs : List V} {ds : List PyData}, RpAll K H vs ds → DpAll K H vs ds
  | _, _, .nil => .nil
  | _, _, .cons q r => .cons (Rp.dp q) (RpAll.dp r)
end
mutual
theorem Rp.mono {K : PySem.W.Frag} {H H' : Hp} (h : ∀ a o, H a = some o → H' a = some o) : ∀ {v : V} {d : PyData}, Rp K H v d → Rp K H' v d
  | _, _, .non => .non
  | _, _, .bl b => .bl b
  | _, _, .int i => .int i
  | _, _, .str x => .str x
  | _, _, .lst q r => .lst (h _ _ q) (RpAll.mono h r)
  | _, _, .tup q r => .tup (SqT.mono h q) (RpAll.mono h r)
theorem RpAll.mono {K : PySem.W.Frag} {H H' : Hp} (h : ∀ a o, H a = some o → H' a = some o) : ∀ {vs : List V} {ds : List PyData}, RpAll K H vs ds → RpAll K H' vs ds
  | _, _, .nil => .nil
  | _, _, .cons q r => .cons (Rp.mono h q) (RpAll.mono h r)
end
theorem RpAll.length {K : PySem.W.Frag} {H : Hp} : ∀ {vs : List V} {ds : List PyData}, RpAll K H vs ds → vs.length = ds.length
  | _, _, .nil => rfl
  | _, _, .cons _ r => congrArg (· + 1) (RpAll.length r)
theorem RpAll.append {K : PySem.W.Frag} {H : Hp} : ∀ {vs ws : List V} {ds es : List PyData}, RpAll K H vs ds → RpAll K H ws es → RpAll K H (vs ++ ws) (ds ++ es)
  | _, _, _, _, .nil, s => s
  | _, _, _, _, .cons q r, s => .cons q (RpAll.append r s)
theorem RpAll.take {K : PySem.W.Frag} {H : Hp} : ∀ {vs : List V} {ds : List PyData} (n : Nat), RpAll K H vs ds → RpAll K H (vs.take n) (ds.take n)
  | _, _, 0, _ => .nil
  | _, _, _ + 1, .nil => .nil
  | _, _, n + 1, .cons q r => .cons q (RpAll.take n r)
theorem RpAll.drop {K : PySem.W.Frag} {H : Hp} : ∀ {vs : List V} {ds : List PyData} (n : Nat), RpAll K H vs ds → RpAll K H (vs.drop n) (ds.drop n)
  | _, _, 0, r => r
  | _, _, _ + 1, .nil => .nil
  | _, _, n + 1, .cons q r => RpAll.drop n r
theorem RpAll.get {K : PySem.W.Frag} {H : Hp} : ∀ {vs : List V} {ds : List PyData} {i : Nat} {d : PyData}, RpAll K H vs ds → ds[i]? = some d → ∃ v, vs[i]? = some v ∧ Rp K H v d
  | _, _, _, _, .nil, e => by simp at e
  | _, _, 0, _, .cons q _, e => by simp at e; subst e; exact ⟨_, rfl, q⟩
  | _, _, i + 1, d, .cons _ r, e => by
    obtain ⟨v, h1, h2⟩ := RpAll.get (i := i) (d := d) r (by simpa using e)
    exact ⟨v, by simpa using h1, h2⟩
theorem RpAll.getV {K : PySem.W.Frag} {H : Hp} : ∀ {vs : List V} {ds : List PyData} {i : Nat} {v : V}, RpAll K H vs ds → vs[i]? = some v → ∃ d, ds[i]? = some d ∧ Rp K H v d
  | _, _, _, _, .nil, e => by simp at e
  | _, _, 0, _, .cons q _, e => by simp at e; subst e; exact ⟨_, rfl, q⟩
  | _, _, i + 1, d, .cons _ r, e => by
    obtain ⟨v, h1, h2⟩ := RpAll.getV (i := i) (v := d) r (by simpa using e)
    exact ⟨v, by simpa using h1, h2⟩
theorem RpAll.set {K : PySem.W.Frag} {H : Hp} {v : V} {d : PyData} (r : Rp K H v d) : ∀ {vs : List V} {ds : List PyData} (i : Nat), RpAll K H vs ds → RpAll K H (vs.set i v) (ds.set i d)
  | _, _, _, .nil => .nil
  | _, _, 0, .cons _ t => .cons r t
  | _, _, i + 1, .cons q t => .cons q (RpAll.set r i t)
theorem RpAll.reverse {K : PySem.W.Frag} {H : Hp} : ∀ {vs : List V} {ds : List PyData}, RpAll K H vs ds → RpAll K H vs.reverse ds.reverse
  | _, _, .nil => .nil
  | _, _, .cons q r => by rw [List.reverse_cons, List.reverse_cons]; exact RpAll.append (RpAll.reverse r) (.cons q .nil)
theorem RpAll.eraseIdx {K : PySem.W.Frag} {H : Hp} : ∀ {vs : List V} {ds : List PyData} (i : Nat), RpAll K H vs ds → RpAll K H (vs.eraseIdx i) (ds.eraseIdx i)
  | _, _, _, .nil => .nil
  | _, _, 0, .cons _ t => t
  | _, _, i + 1, .cons q t => .cons q (RpAll.eraseIdx i t)

/-- a mutable object stands at its addresses -/
def MRel (S : Hp) (H : Hp) (as : List Addr) : MO → Prop
  | .gone => True
  | .lst ds => ∃ a xs, as = [a] ∧ H a = some (.lst xs) ∧ RpAll K S xs ds
  | .res φ => Local φ ∧ φ K S H as
def MO.live : MO → Bool
  | .gone => false
  | _ => true
structure SatM (w : Wd) (M : Mem) (H : Hp) : Prop where
  sub : ∀ a o, w.S a = some o → H a = some o
  len : w.ad.length = M.length
  rel : ∀ i as, w.ad[i]? = some as → MRel K w.S H as (mem M i)
  own : ∀ i as, w.ad[i]? = some as → (mem M i).live = true → ∀ a ∈ as, w.S a = none ∧ ∃ o, H a = some o
  dis : ∀ i j as bs, w.ad[i]? = some as → w.ad[j]? = some bs → (mem M i).live = true → (mem M j).live = true → i ≠ j → ∀ a ∈ as, a ∉ bs
  hid : ∀ p ∈ w.hd, H p.1 = some p.2 ∧ w.S p.1 = none ∧ ∀ i as, w.ad[i]? = some as → (mem M i).live = true → p.1 ∉ as
def FsRel (S : Hp) : List (Str × V) → List (Str × PyData) → Prop
  | [], [] => True
  | (f, v) :: r, (g, d) :: t => f = g ∧ Rp K S v d ∧ FsRel S r t
  | _, _ => False
def RelDV (w : Wd) (v : V) : DV → Prop
  | .val d => Rp K w.S v d
  | .ref i => ∃ a r, w.ad[i]? = some (a :: r) ∧ v = .ref a
  | .raw u p => v = u ∧ (∀ S S' : Hp, (∀ a o, S a = some o → S' a = some o) → p K S → p K S') ∧ p K w.S
  | .no => False
def SlotOk (w : Wd) (o : Option V) : DV → Prop
  | .no => True
  | d => ∃ v, o = some v ∧ RelDV K w v d
inductive SlAll (w : Wd) : St → Sl → Prop
  | nil : SlAll w [] []
  | cons {o : Option V} {σ : St} {d : DV} {ρ : Sl} : SlotOk K w o d → SlAll w σ ρ → SlAll w (o :: σ) (d :: ρ)
inductive DvAll (w : Wd) : List V → List DV → Prop
  | nil : DvAll w [] []
  | cons {v : V} {vs : List V} {d : DV} {ds : List DV} : RelDV K w v d → DvAll w vs ds → DvAll w (v :: vs) (d :: ds)
structure Sat (w : Wd) (M : Mem) (ρ : Sl) (σ : St) (H : Hp) : Prop where
  m : SatM K w M H
  s : SlAll K w σ ρ
/-- an own exception: its class, the fields of its dict -/
inductive XD where
  | own (C : Addr) (fs : List (Str × PyData))
  | bare (c : Value)
def XRel (w : Wd) (H : Hp) (cls : Value) (d : Option Addr) : XD → Prop
  | .own C fs => cls = .ref C ∧ ∃ a vs, d = some a ∧ w.S a = some (.xd vs) ∧ FsRel K w.S vs fs
  | .bare c => cls = c ∧ d = none
end

section
variable {K : PySem.W.Frag} {w w' : Wd} {M : Mem} {ρ : Sl} {σ : St} {H H' : Hp}
theorem FsRel.mono {S S' : Hp} (h : ∀ a o, S a = some o → S' a = some o) : ∀ {vs : List (Str × V)} {fs : List (Str × PyData)}, FsRel K S vs fs → FsRel K S' vs fs
  | [], [], _ => trivial
  | (_, _) :: _, (_, _) :: _, ⟨h1, h2, h3⟩ => ⟨h1, Rp.mono h h2, FsRel.mono h h3⟩
theorem FsRel.lookup {S : Hp} {f : Str} {d : PyData} : ∀ {vs : List (Str × V)} {fs : List (Str × PyData)}, FsRel K S vs fs → fs.lookup f = some d → ∃ v, vs.lookup f = some v ∧ Rp K S v d
  | [], [], _, e => by cases e
  | (g, v) :: _, (g', d') :: _, ⟨h1, h2, h3⟩, e => by
    subst h1
    rw [List.lookup_cons] at e ⊢
    cases q : f == g with
    | true => rw [q] at e; cases e; exact ⟨v, rfl, h2⟩
    | false => rw [q] at e; exact FsRel.lookup h3 e
theorem RelDV.mono (h : w.Le w') {v : V} : ∀ {d : DV}, RelDV K w v d → RelDV K w' v d
  | .val _, q => Rp.mono h.s q
  | .ref _, ⟨a, r, e, q⟩ => ⟨a, r, h.ad e, q⟩
  | .raw _ _, q => ⟨q.1, q.2.1, q.2.1 _ _ h.s q.2.2⟩
  | .no, q => q
theorem SlotOk.mono (h : w.Le w') {o : Option V} {d : DV} (q : SlotOk K w o d) : SlotOk K w' o d := by
  cases d with
  | no => trivial
  | val d => obtain ⟨v, e, r⟩ := q; exact ⟨v, e, RelDV.mono h r⟩
  | ref i => obtain ⟨v, e, r⟩ := q; exact ⟨v, e, RelDV.mono h r⟩
  | raw i _ => obtain ⟨v, e, r⟩ := q; exact ⟨v, e, RelDV.mono h r⟩
theorem SlotOk.of {v : V} {d : DV} (q : RelDV K w v d) : SlotOk K w (some v) d := by
  cases d with
  | no => trivial
  | val d => exact ⟨v, rfl, q⟩
  | ref i => exact ⟨v, rfl, q⟩
  | raw i _ => exact ⟨v, rfl, q⟩
theorem SlAll.mono (h : w.Le w') : ∀ {σ : St} {ρ : Sl}, SlAll K w σ ρ → SlAll K w' σ ρ
  | _, _, .nil => .nil
  | _, _, .cons q r => .cons (q.mono h) (SlAll.mono h r)
theorem DvAll.mono (h : w.Le w') : ∀ {vs : List V} {ds : List DV}, DvAll K w vs ds → DvAll K w' vs ds
  | _, _, .nil => .nil
  | _, _, .cons q r => .cons (RelDV.mono h q) (DvAll.mono h r)
theorem DvAll.length : ∀ {vs : List V} {ds : List DV}, DvAll K w vs ds → vs.length = ds.length
  | _, _, .nil => rfl
  | _, _, .cons _ r => congrArg (· + 1) (DvAll.length r)
theorem SlAll.length : ∀ {σ : St} {ρ : Sl}, SlAll K w σ ρ → σ.length = ρ.length
  | _, _, .nil => rfl
  | _, _, .cons _ r => congrArg (· + 1) (SlAll.length r)
theorem SlAll.get : ∀ {σ : St} {ρ : Sl} {i : Nat}, SlAll K w σ ρ → slot ρ i ≠ .no → ∃ v, σ[i]? = some (some v) ∧ RelDV K w v (slot ρ i)
  | _, _, _, .nil, h => (h rfl).elim
  | _, _, 0, .cons (d := d) q _, h => by
    cases d with
    | no => exact (h rfl).elim
    | val d => obtain ⟨v, rfl, r⟩ := q; exact ⟨v, rfl, r⟩
    | ref d => obtain ⟨v, rfl, r⟩ := q; exact ⟨v, rfl, r⟩
    | raw d _ => obtain ⟨v, rfl, r⟩ := q; exact ⟨v, rfl, r⟩
  | _, _, i + 1, .cons (ρ := ρ) _ r, h => SlAll.get (i := i) r h
theorem SlAll.put {o : Option V} {x : DV} (q : SlotOk K w o x) : ∀ {σ : St} {ρ : Sl} (i : Nat), SlAll K w σ ρ → SlAll K w (σ.set i o) (put ρ i x)
  | _, _, _, .nil => .nil
  | _, _, 0, .cons _ r => .cons q r
  | _, _, i + 1, .cons p r => .cons p (SlAll.put q i r)
end
end DL

set_option Elab.async false
set_option linter.all false
set_option maxRecDepth 100000
set_option maxHeartbeats 4000000
namespace DL
open PySem L2
section
variable {K : PySem.W.Frag} {w w' : Wd} {M : Mem} {ρ : Sl} {σ : St} {H H' : Hp}
/-! ### how a memory stays -/
theorem SatM.keep (s : SatM K w M H) (k : Same H H') : SatM K w M H' where
  sub := fun a o e => k a o (s.sub a o e)
  len := s.len
  rel := fun i as e => by
    have q := s.rel i as e
    have hl : (mem M i).live = true → ∀ a ∈ as, H' a = H a := fun l a ha => by
      obtain ⟨_, o, e'⟩ := s.own i as e l a ha
      rw [e', k a o e']
    cases hm : mem M i with
    | gone => trivial
    | lst ds =>
      rw [hm] at q
      obtain ⟨a, xs, e1, e2, e3⟩ := q
      exact ⟨a, xs, e1, k _ _ e2, e3⟩
    | res φ =>
      rw [hm] at q hl
      exact ⟨q.1, q.1 K _ _ _ _ as (fun _ _ z => z) (hl rfl) q.2⟩
  own := fun i as e l a ha => by
    obtain ⟨h1, o, h2⟩ := s.own i as e l a ha
    exact ⟨h1, o, k a o h2⟩
  dis := s.dis
  hid := fun p hp => ⟨k _ _ (s.hid p hp).1, (s.hid p hp).2⟩
/-- nothing of M is at p, nothing hidden -/
def Apart (w : Wd) (M : Mem) (p : Addr) : Prop := (∀ i as, w.ad[i]? = some as → (mem M i).live = true → p ∉ as) ∧ ∀ q ∈ w.hd, q.1 ≠ p
theorem SatM.apart (s : SatM K w M H) {p : Addr} (h : H p = none) : Apart w M p := by
  refine ⟨fun i as e l hp => ?_, fun q hq z => ?_⟩
  · obtain ⟨_, o, q⟩ := s.own i as e l p hp
    rw [h] at q; cases q
  · have e := (s.hid q hq).1
    rw [z, h] at e; cases e
/-- p becomes stable -/
theorem SatM.more (s : SatM K w M H) {p : Addr} {o : HO} (hp : H p = some o) (ap : Apart w M p) : SatM K ⟨upd w.S p o, w.ad, w.hd⟩ M H := by
  have mono : ∀ a u, w.S a = some u → upd w.S p o a = some u := fun a u e => by
    by_cases z : a = p
    · subst z
      have q := s.sub _ _ e
      rw [hp] at q; cases q
      exact upd_same
    · rw [upd_ne z]; exact e
  refine ⟨fun a u e => ?_, s.len, fun i as e => ?_, fun i as e l a ha => ?_, s.dis, fun q hq => ⟨(s.hid q hq).1, by show upd w.S p o q.1 = none; rw [upd_ne (ap.2 q hq)]; exact (s.hid q hq).2.1, (s.hid q hq).2.2⟩⟩
  · by_cases z : a = p
    · subst z
      have e : upd w.S a o a = some u := e
      rw [upd_same] at e; cases e
      exact hp
    · have e : upd w.S p o a = some u := e
      rw [upd_ne z] at e; exact s.sub _ _ e
  · have q := s.rel i as e
    cases hm : mem M i with
    | gone => trivial
    | lst ds =>
      rw [hm] at q
      obtain ⟨a, xs, e1, e2, e3⟩ := q
      exact ⟨a, xs, e1, e2, RpAll.mono mono e3⟩
    | res φ =>
      rw [hm] at q
      exact ⟨q.1, q.1 K _ _ _ _ as mono (fun _ _ => rfl) q.2⟩
  · obtain ⟨h1, h2⟩ := s.own i as e l a ha
    refine ⟨?_, h2⟩
    have z : a ≠ p := fun z => ap.1 i as e l (z ▸ ha)
    show upd w.S p o a = none
    rw [upd_ne z]; exact h1
theorem upd_sameH {H : Hp} {p : Addr} {o : HO} (h : H p = none) : Same H (upd H p o) := fun b u e => by
  rw [upd_ne (ne_of_none e h)]; exact e
theorem Wd.Le.more {w : Wd} {p : Addr} {o : HO} (h : w.S p = none) : w.Le ⟨upd w.S p o, w.ad, w.hd⟩ := ⟨upd_sameH h, ⟨[], by simp⟩, rfl⟩
theorem SatM.noS (s : SatM K w M H) {p : Addr} (h : H p = none) : w.S p = none := by
  cases q : w.S p with
  | none => rfl
  | some o => rw [s.sub _ _ q] at h; cases h
/-- a new stable object -/
theorem SatM.grow (s : SatM K w M H) {p : Addr} (o : HO) (h : H p = none) : SatM K ⟨upd w.S p o, w.ad, w.hd⟩ M (upd H p o) :=
  (s.keep (upd_sameH h)).more upd_same (s.apart h)
theorem mem_append_left {M : Mem} {x : List MO} : ∀ {i : Nat}, i < M.length → mem (M ++ x) i = mem M i := by
  induction M with
  | nil => intro i h; simp at h
  | cons a r ih =>
    intro i h
    cases i with
    | zero => rfl
    | succ n => exact ih (by simpa using h)
theorem mem_append_right (M : Mem) (x : List MO) (k : Nat) : mem (M ++ x) (M.length + k) = mem x k := by
  induction M with
  | nil => simp [mem]
  | cons a r ih =>
    have e : (a :: r).length + k = (r.length + k) + 1 := by simp; omega
    rw [e]
    exact ih
theorem mem_append_0 (M : Mem) (x : List MO) : mem (M ++ x) M.length = mem x 0 := mem_append_right M x 0
theorem mput_append_right (M : Mem) (x : List MO) (k : Nat) (m : MO) : mput (M ++ x) (M.length + k) m = M ++ mput x k m := by
  induction M with
  | nil => simp
  | cons a r ih =>
    have e : (a :: r).length + k = (r.length + k) + 1 := by simp; omega
    rw [e]
    exact congrArg (a :: ·) ih
theorem mput_append_0 (M : Mem) (x : List MO) (m : MO) : mput (M ++ x) M.length m = M ++ mput x 0 m := mput_append_right M x 0 m
theorem mem_out {M : Mem} : ∀ {i : Nat}, M.length ≤ i → mem M i = .gone := by
  induction M with
  | nil => intro i _; rfl
  | cons a r ih =>
    intro i h
    cases i with
    | zero => simp at h
    | succ n => exact ih (by simpa using h)
theorem mem_mput_same {M : Mem} {x : MO} : ∀ {i : Nat}, i < M.length → mem (mput M i x) i = x := by
  induction M with
  | nil => intro i h; simp at h
  | cons a r ih =>
    intro i h
    cases i with
    | zero => rfl
    | succ n => exact ih (by simpa using h)
theorem mem_mput_ne {M : Mem} {x : MO} : ∀ {i j : Nat}, i ≠ j → mem (mput M i x) j = mem M j := by
  induction M with
  | nil => intro i j _; rfl
  | cons a r ih =>
    intro i j h
    cases i with
    | zero =>
      cases j with
      | zero => exact (h rfl).elim
      | succ n => rfl
    | succ n =>
      cases j with
      | zero => rfl
      | succ m => exact ih (fun e => h (congrArg (· + 1) e))
theorem live_lt {M : Mem} {i : Nat} (h : (mem M i).live = true) : i < M.length := by
  by_cases z : i < M.length
  · exact z
  · rw [mem_out (by omega)] at h; cases h
/-- a new mutable list -/
theorem SatM.push (s : SatM K w M H) {p : Addr} {xs : List V} {ds : List PyData} (h : H p = none) (r : RpAll K w.S xs ds) :
    SatM K ⟨w.S, w.ad ++ [[p]], w.hd⟩ (M ++ [.lst ds]) (upd H p (.lst xs)) := by
  have k := s.keep (upd_sameH (o := .lst xs) h)
  have ap := s.apart h
  have cut : ∀ {i : Nat} {as : List Addr}, (w.ad ++ [[p]])[i]? = some as → (i < M.length ∧ w.ad[i]? = some as) ∨ (i = M.length ∧ as = [p]) := fun {i as} e => by
    by_cases z : i < w.ad.length
    · rw [List.getElem?_append_left z] at e
      exact .inl ⟨by rw [← s.len]; exact z, e⟩
    · have z' : w.ad.length ≤ i := by omega
      rw [List.getElem?_append_right z'] at e
      have e0 : i - w.ad.length = 0 := by
        obtain ⟨q, _⟩ := List.getElem?_eq_some_iff.mp e
        simp at q; omega
      rw [e0] at e
      simp at e
      exact .inr ⟨by rw [← s.len]; omega, e.symm⟩
  refine ⟨k.sub, by simp [s.len], fun i as e => ?_, fun i as e l a ha => ?_, fun i j as bs e1 e2 l1 l2 ne a ha hb => ?_, fun q hq => ⟨(k.hid q hq).1, (k.hid q hq).2.1, fun i as e l hm => ?_⟩⟩
  · rcases cut e with ⟨hi, e'⟩ | ⟨hi, e'⟩
    · rw [mem_append_left hi]; exact k.rel i as e'
    · subst hi e'
      rw [mem_append_0]
      exact ⟨p, xs, rfl, upd_same, r⟩
  · rcases cut e with ⟨hi, e'⟩ | ⟨hi, e'⟩
    · rw [mem_append_left hi] at l
      exact k.own i as e' l a ha
    · subst hi e'
      have z : a = p := by simpa using ha
      subst z
      exact ⟨s.noS h, _, upd_same⟩
  · rcases cut e1 with ⟨hi, e1⟩ | ⟨hi, e1⟩ <;> rcases cut e2 with ⟨hj, e2⟩ | ⟨hj, e2⟩
    · rw [mem_append_left hi] at l1
      rw [mem_append_left hj] at l2
      exact s.dis i j as bs e1 e2 l1 l2 ne a ha hb
    · subst e2
      rw [mem_append_left hi] at l1
      have z : a = p := by simpa using hb
      exact ap.1 i as e1 l1 (z ▸ ha)
    · subst e1
      rw [mem_append_left hj] at l2
      have z : a = p := by simpa using ha
      exact ap.1 j bs e2 l2 (z ▸ hb)
    · exact ne (hi.trans hj.symm)
  · rcases cut e with ⟨hi, e'⟩ | ⟨hi, e'⟩
    · rw [mem_append_left hi] at l
      exact (k.hid q hq).2.2 i as e' l hm
    · subst e'
      exact ap.2 q hq (by simpa using hm)
theorem Wd.Le.push {w : Wd} {p : Addr} : w.Le ⟨w.S, w.ad ++ [[p]], w.hd⟩ := ⟨fun _ _ e => e, ⟨[[p]], rfl⟩, rfl⟩
/-- a mutable list and where it stands -/
theorem SatM.at (s : SatM K w M H) {i : Nat} {ds : List PyData} {v : V} (h : mem M i = .lst ds) (r : RelDV K w v (.ref i)) : ∃ p xs, v = .ref p ∧ w.ad[i]? = some [p] ∧ H p = some (.lst xs) ∧ RpAll K w.S xs ds := by
  obtain ⟨a, t, e, rfl⟩ := r
  have q := s.rel i _ e
  rw [h] at q
  obtain ⟨a', xs, e1, e2, e3⟩ := q
  cases e1
  exact ⟨a, xs, rfl, e, e2, e3⟩
theorem SatM.set (s : SatM K w M H) {i : Nat} {ds ds' : List PyData} {p : Addr} {xs : List V} (h : mem M i = .lst ds) (e : w.ad[i]? = some [p]) (r : RpAll K w.S xs ds') :
    SatM K w (mput M i (.lst ds')) (upd H p (.lst xs)) := by
  have li : (mem M i).live = true := by rw [h]; rfl
  have hi := live_lt li
  have hS := (s.own i _ e li p (by simp)).1
  have other : ∀ {j : Nat} {as : List Addr}, w.ad[j]? = some as → j ≠ i → (mem M j).live = true → ∀ a ∈ as, a ≠ p := fun {j as} e' hne l a ha z => by
    subst z
    exact s.dis j i as [a] e' e l li hne a ha (by simp)
  have live : ∀ {j : Nat}, j ≠ i → mem (mput M i (.lst ds')) j = mem M j := fun {j} hne => mem_mput_ne (Ne.symm hne)
  refine ⟨fun a o q => ?_, by rw [mput_length]; exact s.len, fun j as e' => ?_, fun j as e' l a ha => ?_, fun j k as bs e1 e2 l1 l2 ne => ?_, fun q hq => ⟨?_, (s.hid q hq).2.1, fun j as e' l hm => ?_⟩⟩
  · have z : a ≠ p := fun z => by subst z; rw [hS] at q; cases q
    rw [upd_ne z]; exact s.sub _ _ q
  · by_cases hj : j = i
    · subst hj
      rw [mem_mput_same hi]
      rw [e] at e'; cases e'
      exact ⟨p, xs, rfl, upd_same, r⟩
    · rw [live hj]
      have q := s.rel j as e'
      cases hm : mem M j with
      | gone => trivial
      | lst es =>
        rw [hm] at q
        obtain ⟨a, ys, e1, e2, e3⟩ := q
        refine ⟨a, ys, e1, ?_, e3⟩
        rw [upd_ne (other e' hj (by rw [hm]; rfl) a (by rw [e1]; simp))]; exact e2
      | res φ =>
        rw [hm] at q
        exact ⟨q.1, q.1 K _ _ _ _ as (fun _ _ z => z) (fun a ha => upd_ne (other e' hj (by rw [hm]; rfl) a ha)) q.2⟩
  · by_cases hj : j = i
    · subst hj
      rw [e] at e'; cases e'
      have z : a = p := by simpa using ha
      subst z
      exact ⟨hS, _, upd_same⟩
    · rw [live hj] at l
      obtain ⟨h1, o, h2⟩ := s.own j as e' l a ha
      exact ⟨h1, o, by rw [upd_ne (other e' hj l a ha)]; exact h2⟩
  · have l1' : (mem M j).live = true := by
      by_cases hj : j = i
      · subst hj; exact li
      · rw [live hj] at l1; exact l1
    have l2' : (mem M k).live = true := by
      by_cases hj : k = i
      · subst hj; exact li
      · rw [live hj] at l2; exact l2
    exact s.dis j k as bs e1 e2 l1' l2' ne
  · rw [upd_ne (fun z => (s.hid q hq).2.2 i _ e li (by rw [z]; simp))]
    exact (s.hid q hq).1
  · by_cases hj : j = i
    · subst hj; exact (s.hid q hq).2.2 j as e' li hm
    · rw [live hj] at l; exact (s.hid q hq).2.2 j as e' l hm
/-- entry i is let go; if it was a list it becomes stable -/
theorem SatM.drop (s : SatM K w M H) (i : Nat) : SatM K w (mput M i .gone) H := by
  have key : ∀ {j : Nat}, (mem (mput M i .gone) j).live = true → j ≠ i ∧ (mem M j).live = true := fun {j} l => by
    by_cases hj : j = i
    · subst hj
      by_cases z : j < M.length
      · rw [mem_mput_same z] at l; cases l
      · rw [mem_out (by rw [mput_length]; omega)] at l; cases l
    · rw [mem_mput_ne (Ne.symm hj)] at l; exact ⟨hj, l⟩
  refine ⟨s.sub, by rw [mput_length]; exact s.len, fun j as e => ?_, fun j as e l a ha => s.own j as e (key l).2 a ha, fun j k as bs e1 e2 l1 l2 => s.dis j k as bs e1 e2 (key l1).2 (key l2).2, fun q hq => ⟨(s.hid q hq).1, (s.hid q hq).2.1, fun j as e l => (s.hid q hq).2.2 j as e (key l).2⟩⟩
  cases l : (mem (mput M i .gone) j).live with
  | true => rw [mem_mput_ne (Ne.symm (key l).1)]; exact s.rel j as e
  | false =>
    cases hm : mem (mput M i .gone) j with
    | gone => trivial
    | lst ds => rw [hm] at l; cases l
    | res φ => rw [hm] at l; cases l
theorem SatM.freeze (s : SatM K w M H) {i : Nat} {ds : List PyData} {p : Addr} {xs : List V} (h : mem M i = .lst ds) (e : w.ad[i]? = some [p]) (hp : H p = some (.lst xs)) :
    SatM K ⟨upd w.S p (.lst xs), w.ad, w.hd⟩ (mput M i .gone) H := by
  have li : (mem M i).live = true := by rw [h]; rfl
  refine (s.drop i).more hp ⟨fun j as e' l ha => ?_, fun q hq z => (s.hid q hq).2.2 i _ e li (by rw [z]; simp)⟩
  have hj : j ≠ i := fun z => by
    subst z
    rw [mem_mput_same (live_lt li)] at l; cases l
  rw [mem_mput_ne (Ne.symm hj)] at l
  exact s.dis j i as [p] e' e l li hj p ha (by simp)
/-- only the first n objects are spoken of -/
theorem mem_take {M : Mem} {n : Nat} : ∀ {i : Nat}, i < n → mem (M.take n) i = mem M i := by
  induction M generalizing n with
  | nil => intro i h; simp [mem]
  | cons a r ih =>
    intro i h
    cases n with
    | zero => omega
    | succ n =>
      cases i with
      | zero => rfl
      | succ i => exact ih (by omega)
theorem SatM.trim (s : SatM K w M H) (n : Nat) : SatM K ⟨w.S, w.ad.take n, w.hd⟩ (M.take n) H := by
  have cut : ∀ {i : Nat} {as : List Addr}, (w.ad.take n)[i]? = some as → i < n ∧ w.ad[i]? = some as := fun {i as} e => by
    by_cases h : i < n
    · rw [List.getElem?_take_of_lt h] at e; exact ⟨h, e⟩
    · rw [List.getElem?_eq_none_iff.mpr (by simp; omega)] at e; cases e
  refine ⟨s.sub, by simp [s.len], fun i as e => ?_, fun i as e l a ha => ?_, fun i j as bs e1 e2 l1 l2 => ?_, fun q hq => ⟨(s.hid q hq).1, (s.hid q hq).2.1, fun i as e l => ?_⟩⟩
  · obtain ⟨h, e⟩ := cut e
    rw [mem_take h]; exact s.rel i as e
  · obtain ⟨h, e⟩ := cut e
    rw [mem_take h] at l
    exact s.own i as e l a ha
  · obtain ⟨h1, e1⟩ := cut e1
    obtain ⟨h2, e2⟩ := cut e2
    rw [mem_take h1] at l1
    rw [mem_take h2] at l2
    exact s.dis i j as bs e1 e2 l1 l2
  · obtain ⟨h, e⟩ := cut e
    rw [mem_take h] at l
    exact (s.hid q hq).2.2 i as e l
theorem Wd.Le.trim {w w' : Wd} (h : w.Le w') : w.Le ⟨w'.S, w'.ad.take w.ad.length, w'.hd⟩ := ⟨h.s, ⟨[], by obtain ⟨r, e⟩ := h.a; rw [e]; simp⟩, h.h⟩
end
end DL

set_option Elab.async false
set_option linter.all false
set_option maxRecDepth 100000
set_option maxHeartbeats 4000000
namespace DL
open PySem L2

/-! ### readings over data -/
abbrev DQ := DV → Mem → Prop
abbrev DX := XD → Mem → Prop
abbrev DTE := Sl → Mem → DQ → DX → Prop
abbrev DTT := Sl → Mem → (Bool → Mem → Prop) → DX → Prop
abbrev DTA := Sl → Mem → (List DV → Mem → Prop) → DX → Prop
/-- what is wanted behind a statement -/
structure DEn where
  nx : Sl → Mem → Prop
  rt : DQ
  bk : Sl → Mem → Prop := fun _ _ => False
  ct : Sl → Mem → Prop := fun _ _ => False
  ex : XD → Sl → Mem → Prop := fun _ _ _ => False
abbrev DTS := DEn → Sl → Mem → Prop

def XOk (K : PySem.W.Frag) (W : WX) (w : Wd) (σ : St) (E0 : DX) : Prop := ∀ x M' w' H' cls d, E0 x M' → w.Le w' → SatM K w' M' H' → XRel K w' H' cls d x → W cls d σ H'
theorem XOk.le {K : PySem.W.Frag} {W : WX} {w w1 : Wd} {σ : St} {E0 : DX} (h : XOk K W w σ E0) (l : w.Le w1) : XOk K W w1 σ E0 := fun x M' w' H' cls d e l' => h x M' w' H' cls d e (l.trans l')
def KOk (K : PySem.W.Frag) (w : Wd) (Q0 : DQ) (Q : VK) : Prop := ∀ r M' w' v H', Q0 r M' → w.Le w' → SatM K w' M' H' → RelDV K w' v r → Q v H'
theorem KOk.le {K : PySem.W.Frag} {w w1 : Wd} {Q0 : DQ} {Q : VK} (h : KOk K w Q0 Q) (l : w.Le w1) : KOk K w1 Q0 Q := fun r M' w' v H' e l' => h r M' w' v H' e (l.trans l')
def liftE (K : PySem.W.Frag) (W : WX) (t : DTE) : TE := fun σ H Q => ∃ w M ρ Q0 E0, Sat K w M ρ σ H ∧ t ρ M Q0 E0 ∧ KOk K w Q0 Q ∧ XOk K W w σ E0
def liftT (K : PySem.W.Frag) (W : WX) (t : DTT) : TT := fun σ H Q => ∃ w M ρ Q0 E0, Sat K w M ρ σ H ∧ t ρ M Q0 E0 ∧ (∀ b M' w' H', Q0 b M' → w.Le w' → SatM K w' M' H' → Q b H') ∧ XOk K W w σ E0
def liftA (K : PySem.W.Frag) (W : WX) (t : DTA) : TA := fun σ H Q => ∃ w M ρ Q0 E0, Sat K w M ρ σ H ∧ t ρ M Q0 E0 ∧ (∀ r M' w' v H', Q0 r M' → w.Le w' → SatM K w' M' H' → DvAll K w' v r → Q v H') ∧ XOk K W w σ E0
structure EndsOk (K : PySem.W.Frag) (W : WX) (w : Wd) (D0 : DEn) (D : Ends) : Prop where
  nx : ∀ ρ' M' w' σ' H', D0.nx ρ' M' → w.Le w' → Sat K w' M' ρ' σ' H' → D.nx σ' H'
  rt : KOk K w D0.rt D.rt
  bk : ∀ ρ' M' w' σ' H', D0.bk ρ' M' → w.Le w' → Sat K w' M' ρ' σ' H' → D.bk σ' H'
  ct : ∀ ρ' M' w' σ' H', D0.ct ρ' M' → w.Le w' → Sat K w' M' ρ' σ' H' → D.ct σ' H'
  ex : ∀ x ρ' M' w' σ' H' cls d, D0.ex x ρ' M' → w.Le w' → Sat K w' M' ρ' σ' H' → XRel K w' H' cls d x → W cls d σ' H'
theorem EndsOk.le {K : PySem.W.Frag} {W : WX} {w w1 : Wd} {D0 : DEn} {D : Ends} (h : EndsOk K W w D0 D) (l : w.Le w1) : EndsOk K W w1 D0 D :=
  ⟨fun ρ' M' w' σ' H' e l' => h.nx ρ' M' w' σ' H' e (l.trans l'), h.rt.le l, fun ρ' M' w' σ' H' e l' => h.bk ρ' M' w' σ' H' e (l.trans l'), fun ρ' M' w' σ' H' e l' => h.ct ρ' M' w' σ' H' e (l.trans l'),
    fun x ρ' M' w' σ' H' cls d e l' => h.ex x ρ' M' w' σ' H' cls d e (l.trans l')⟩
theorem EndsOk.xok {K : PySem.W.Frag} {W : WX} {w : Wd} {D0 : DEn} {D : Ends} (h : EndsOk K W w D0 D) {ρ : Sl} {σ : St} (s : SlAll K w σ ρ) : XOk K W w σ (fun x M => D0.ex x ρ M) :=
  fun x M' w' H' cls d e l m r => h.ex x ρ M' w' σ H' cls d e l ⟨m, s.mono l⟩ r
def liftS (K : PySem.W.Frag) (W : WX) (t : DTS) : TS := fun D σ H => ∃ w M ρ D0, Sat K w M ρ σ H ∧ t D0 ρ M ∧ EndsOk K W w D0 D

section
variable {X : Cx}
theorem PE.imp {e : Expr} {t t' : TE} (h : PE X e t) (i : ∀ σ H Q, t' σ H Q → t σ H Q) : PE X e t' := ⟨fun pins s σ H Q I q => h.run pins s σ H Q I (i _ _ _ q)⟩
theorem PT.imp {e : Expr} {t t' : TT} (h : PT X e t) (i : ∀ σ H Q, t' σ H Q → t σ H Q) : PT X e t' := ⟨fun pins s σ H Q I q => h.run pins s σ H Q I (i _ _ _ q)⟩
theorem PW.imp {e : Expr} {t t' : TT} (h : PW X e t) (i : ∀ σ H Q, t' σ H Q → t σ H Q) : PW X e t' := ⟨fun wh pins s σ H Q I q => h.run wh pins s σ H Q I (i _ _ _ q)⟩
theorem PA.imp {e : List Expr} {t t' : TA} (h : PA X e t) (i : ∀ σ H Q, t' σ H Q → t σ H Q) : PA X e t' := ⟨fun pos pins s σ H Q I q => h.run pos pins s σ H Q I (i _ _ _ q)⟩
theorem PS.imp {e : Stmt} {t t' : TS} (h : PS X e t) (i : ∀ D σ H, t' D σ H → t D σ H) : PS X e t' := ⟨fun pins s σ H D I q => h.run pins s σ H D I (i _ _ _ q)⟩
theorem PSs.imp {e : List Stmt} {t t' : TS} (h : PSs X e t) (i : ∀ D σ H, t' D σ H → t D σ H) : PSs X e t' := ⟨fun pins s σ H D I q => h.run pins s σ H D I (i _ _ _ q)⟩
end
def DE (X : Cx) (W : WX) (e : Expr) (t : DTE) : Prop := PE X e (liftE X.K W t)
def DT (X : Cx) (W : WX) (e : Expr) (t : DTT) : Prop := PT X e (liftT X.K W t)
def DW (X : Cx) (W : WX) (e : Expr) (t : DTT) : Prop := PW X e (liftT X.K W t)
def DA (X : Cx) (W : WX) (e : List Expr) (t : DTA) : Prop := PA X e (liftA X.K W t)
def DS (X : Cx) (W : WX) (e : Stmt) (t : DTS) : Prop := PS X e (liftS X.K W t)
def DSs (X : Cx) (W : WX) (e : List Stmt) (t : DTS) : Prop := PSs X e (liftS X.K W t)

/-! ### a value seen as data -/
inductive Rv (K : PySem.W.Frag) (S H : Hp) : V → PyData → Prop
  | non : Rv K S H .non .none
  | bl (b : Bool) : Rv K S H (.bl b) (.bool b)
  | int (i : Int) : Rv K S H (.int i) (.int i)
  | str (x : Str) : Rv K S H (.str x) (.str x)
  | lst {a : Addr} {xs : List V} {ds : List PyData} : H a = some (.lst xs) → RpAll K S xs ds → Rv K S H (.ref a) (.list ds)
  | tup {a : Addr} {xs : List V} {ds : List PyData} : SqT K S a xs → RpAll K S xs ds → Rv K S H (.ref a) (.tuple ds)
theorem Rp.rv {K : PySem.W.Frag} {S H : Hp} (h : ∀ a o, S a = some o → H a = some o) {v : V} {d : PyData} (r : Rp K S v d) : Rv K S H v d := by
  cases r with
  | non => exact .non
  | bl b => exact .bl b
  | int i => exact .int i
  | str x => exact .str x
  | lst q r => exact .lst (h _ _ q) r
  | tup q r => exact .tup q r
theorem Rv.rp {K : PySem.W.Frag} {S H : Hp} (h : ∀ a o, S a = some o → H a = some o) {v : V} {d : PyData} (r : Rv K S H v d) : Rp K H v d := by
  cases r with
  | non => exact .non
  | bl b => exact .bl b
  | int i => exact .int i
  | str x => exact .str x
  | lst q r => exact .lst q (RpAll.mono h r)
  | tup q r => exact .tup (SqT.mono h q) (RpAll.mono h r)
/-- data of a value; of a mutable list, as it stands -/
def vw (M : Mem) (x : DV) (k : PyData → Prop) : Prop := match x with
  | .val d => k d
  | .ref i => match mem M i with
    | .lst ds => k (.list ds)
    | _ => False
  | _ => False
def vws (M : Mem) : List DV → (List PyData → Prop) → Prop
  | [], k => k []
  | x :: xs, k => vw M x fun d => vws M xs fun ds => k (d :: ds)
inductive RvAll (K : PySem.W.Frag) (S H : Hp) : List V → List PyData → Prop
  | nil : RvAll K S H [] []
  | cons {v : V} {vs : List V} {d : PyData} {ds : List PyData} : Rv K S H v d → RvAll K S H vs ds → RvAll K S H (v :: vs) (d :: ds)
section
variable {K : PySem.W.Frag} {w w' : Wd} {M : Mem} {ρ : Sl} {σ : St} {H H' : Hp}
theorem vw_elim (s : SatM K w M H) {v : V} {x : DV} {k : PyData → Prop} (r : RelDV K w v x) (h : vw M x k) : ∃ d, Rv K w.S H v d ∧ k d := by
  cases x with
  | val d => exact ⟨d, Rp.rv s.sub r, h⟩
  | ref i =>
    unfold vw at h
    cases hm : mem M i with
    | gone => simp only [hm] at h
    | res φ => simp only [hm] at h
    | lst ds =>
      simp only [hm] at h
      obtain ⟨p, xs, rfl, _, h1, h2⟩ := s.at hm r
      exact ⟨_, .lst h1 h2, h⟩
  | raw u _ => exact h.elim
  | no => exact h.elim
theorem vws_elim (s : SatM K w M H) : ∀ {vs : List V} {xs : List DV} {k : List PyData → Prop}, DvAll K w vs xs → vws M xs k → ∃ ds, RvAll K w.S H vs ds ∧ k ds
  | _, _, _, .nil, h => ⟨[], .nil, h⟩
  | _, _, k, .cons q r, h => by
    obtain ⟨d, h1, h2⟩ := vw_elim s q h
    obtain ⟨ds, h3, h4⟩ := vws_elim s r h2
    exact ⟨d :: ds, .cons h1 h3, h4⟩
end
/-- a result that is data -/
def ROk (K : PySem.W.Frag) (w : Wd) (M : Mem) (k : PyData → Prop) (Q : VK) : Prop := ∀ d w' v H', k d → w.Le w' → SatM K w' M H' → Rp K w'.S v d → Q v H'
/-- rules over data by values: r is the hand layer's reading, F the data's -/
def D2 (K : PySem.W.Frag) (r : R2) (F : PyData → PyData → (PyData → Prop) → Prop) : Prop :=
  ∀ w M H vx vy a b k Q, SatM K w M H → Rv K w.S H vx a → Rv K w.S H vy b → F a b k → ROk K w M k Q → r vx vy H Q
def D1 (K : PySem.W.Frag) (r : V → Hp → VK → Prop) (F : PyData → (PyData → Prop) → Prop) : Prop :=
  ∀ w M H vx a k Q, SatM K w M H → Rv K w.S H vx a → F a k → ROk K w M k Q → r vx H Q
def Dn (K : PySem.W.Frag) (r : List V → Hp → VK → Prop) (F : List PyData → (PyData → Prop) → Prop) : Prop :=
  ∀ w M H vs ds k Q, SatM K w M H → RvAll K w.S H vs ds → F ds k → ROk K w M k Q → r vs H Q

/-! ### names, constants -/
def DV.is : DV → Bool
  | .no => false
  | _ => true
def dVar (i : Nat) : DTE := fun ρ M Q _ => (slot ρ i).is = true ∧ Q (slot ρ i) M
def dC (d : PyData) : DTE := fun _ M Q _ => Q (.val d) M
section
variable {X : Cx} {W : WX} {pos : Pos}
theorem de_var (i : Nat) {x : Str} (hN : X.N[i]? = some x := by rfl) (hv : Vis X.env.scope x := by first | exact Or.inl rfl | exact Or.inr (Or.inl rfl) | exact Or.inr (Or.inr rfl)) (hd : (x == ("__debug__" : Str)) = false := by decide)
    (hcd : (x == ("__classdict__" : Str)) = false := by decide) : DE X W (.Name x pos) (dVar i) := PE.imp (pe_var (i := i) hN hv hd hcd) fun σ H Q ⟨w, M, ρ, Q0, E0, s, ⟨h1, h2⟩, k, _⟩ => by
  have ne : slot ρ i ≠ .no := fun z => by rw [z] at h1; cases h1
  obtain ⟨v, e, r⟩ := s.s.get ne
  exact ⟨v, e, k _ M w v H h2 (.refl w) s.m r⟩
theorem de_c {e : Expr} {v : V} {d : PyData} (h : PE X e (tC v)) (r : ∀ S, Rp X.K S v d) : DE X W e (dC d) := PE.imp h fun σ H Q ⟨w, M, ρ, Q0, E0, s, h, k, _⟩ => k _ M w v H h (.refl w) s.m (r _)
theorem de_int {i : Int} {j : Nat} : DE X W (.Constant (.int i) j pos) (dC (.int i)) := de_c pe_int fun _ => .int i
theorem de_bl {b : Bool} {j : Nat} : DE X W (.Constant (.bool b) j pos) (dC (.bool b)) := de_c pe_bl fun _ => .bl b
theorem de_non {j : Nat} : DE X W (.Constant .none j pos) (dC .none) := de_c pe_non fun _ => .non
theorem de_str {x : Str} {j : Nat} : DE X W (.Constant (.str x) j pos) (dC (.str x)) := de_c pe_str fun _ => .str x
/-- a module's constant -/
structure GlobC (K : PySem.W.Frag) (mg : Str → Option Value) (x : Str) (d : PyData) : Prop where
  ex : ∃ u v, mg x = some u ∧ RelV v u ∧ ∀ S, Rp K S v d
theorem de_glob {x : Str} {d : PyData} (G : GlobC X.K X.mg x d) (hg : Gl X x := by rfl) (hd : (x == ("__debug__" : Str)) = false := by decide) : DE X W (.Name x pos) (dC d) := by
  obtain ⟨u, v, h1, h2, h3⟩ := G.ex
  exact de_c (pe_glob hg h1 h2 hd) h3
theorem de_neg {i : Int} {j : Nat} {p : Pos} : DE X W (.UnaryOp .USub (.Constant (.int i) j p) pos) (dC (.int (-i))) :=
  PE.imp (pe_un un_neg pe_int) fun σ H Q ⟨w, M, ρ, Q0, E0, s, h, k, _⟩ => ⟨i, rfl, k _ M w _ H h (.refl w) s.m (.int _)⟩
end

/-! ### operators -/
def asB (x : DV) (k : Bool → Prop) : Prop := match x with
  | .val (.bool b) => k b
  | _ => False
theorem bool_of {K : PySem.W.Frag} {w : Wd} {v : V} {x : DV} {k : Bool → Prop} (r : RelDV K w v x) (h : asB x k) : ∃ b, v = .bl b ∧ x = .val (.bool b) ∧ k b := by
  cases x with
  | val d =>
    cases d with
    | bool b => cases r; exact ⟨b, rfl, rfl, h⟩
    | none => exact h.elim
    | int _ => exact h.elim
    | str _ => exact h.elim
    | list _ => exact h.elim
    | tuple _ => exact h.elim
    | dict _ => exact h.elim
  | ref i => exact h.elim
  | raw v _ => exact h.elim
  | no => exact h.elim
def bOf (d : PyData) (k : Bool → Prop) : Prop := match d with
  | .bool b => k b
  | _ => False
theorem bOf_elim {d : PyData} {k : Bool → Prop} (h : bOf d k) : ∃ b, d = .bool b ∧ k b := by
  cases d with
  | bool b => exact ⟨b, rfl, h⟩
  | none => exact h.elim
  | int _ => exact h.elim
  | str _ => exact h.elim
  | list _ => exact h.elim
  | tuple _ => exact h.elim
  | dict _ => exact h.elim
def dOp2 (F : PyData → PyData → (PyData → Prop) → Prop) (ta tb : DTE) : DTE := fun ρ M Q E => ta ρ M (fun x M1 => tb ρ M1 (fun y M2 => vw M2 x fun a => vw M2 y fun b => F a b fun d => Q (.val d) M2) E) E
def dOp1 (F : PyData → (PyData → Prop) → Prop) (ta : DTE) : DTE := fun ρ M Q E => ta ρ M (fun x M1 => vw M1 x fun a => F a fun d => Q (.val d) M1) E
section
variable {X : Cx} {W : WX} {pos : Pos} {a b c : Expr} {ta tb tc : DTE}
theorem ROk.of {K : PySem.W.Frag} {w w1 : Wd} {M : Mem} {Q0 : DQ} {Q : VK} (k : KOk K w Q0 Q) (l : w.Le w1) : ROk K w1 M (fun d => Q0 (.val d) M) Q := fun d w' v H' h l' s r => k (.val d) M w' v H' h (l.trans l') s r
theorem op2_lift {K : PySem.W.Frag} {r : R2} {F : PyData → PyData → (PyData → Prop) → Prop} (hd : D2 K r F) (σ : St) (H : Hp) (Q : VK) (h : liftE K W (dOp2 F ta tb) σ H Q) : tOp r (liftE K W ta) (liftE K W tb) σ H Q := by
  obtain ⟨w, M, ρ, Q0, E0, s, h, k, x⟩ := h
  refine ⟨w, M, ρ, _, E0, s, h, fun d1 M1 w1 v1 H1 h1 l1 s1 r1 => ?_, x⟩
  refine ⟨w1, M1, ρ, _, E0, ⟨s1, s.s.mono l1⟩, h1, fun d2 M2 w2 v2 H2 h2 l2 s2 r2 => ?_, x.le l1⟩
  obtain ⟨p, q1, h3⟩ := vw_elim s2 (RelDV.mono l2 r1) h2
  obtain ⟨p', q2, h4⟩ := vw_elim s2 r2 h3
  exact hd w2 M2 H2 v1 v2 p p' _ Q s2 q1 q2 h4 (ROk.of k (l1.trans l2))
theorem de_op {op : Operator} {r : R2} {F : PyData → PyData → (PyData → Prop) → Prop} (ho : OpR X (binaryOp op) r) (hd : D2 X.K r F) (ha : DE X W a ta) (hb : DE X W b tb) : DE X W (.BinOp a op b pos) (dOp2 F ta tb) :=
  PE.imp (pe_op ho ha hb) fun σ H Q h => op2_lift hd σ H Q h
theorem de_cmp {op : CmpOp} {r : R2} {F : PyData → PyData → (PyData → Prop) → Prop} (ho : OpR X (compareOp op) r) (hd : D2 X.K r F) (ha : DE X W a ta) (hb : DE X W b tb) (hm : behindInMarks op b = false := by first | exact nomark _ | rfl) : DE X W (.Compare a [op] [b] pos) (dOp2 F ta tb) :=
  PE.imp (pe_cmpR ho ha hb hm) fun σ H Q h => op2_lift hd σ H Q h
def dTest (t : DTE) : DTT := fun ρ M Q E => t ρ M (fun x M1 => asB x fun b => Q b M1) E
theorem test_lift {K : PySem.W.Frag} {t : DTE} (σ : St) (H : Hp) (Q : Bool → Hp → Prop) (h : liftT K W (dTest t) σ H Q) : liftE K W t σ H (fun x H' => ∃ k, x = .bl k ∧ Q k H') := by
  obtain ⟨w, M, ρ, Q0, E0, s, h, k, x⟩ := h
  exact ⟨w, M, ρ, _, E0, s, h, fun d1 M1 w1 v1 H1 h1 l1 s1 r1 => by
    obtain ⟨b, rfl, rfl, h2⟩ := bool_of r1 h1
    exact ⟨b, rfl, k b M1 w1 H1 h2 l1 s1⟩, x⟩
theorem dt_cmp {op : CmpOp} {r : R2} {F : PyData → PyData → (PyData → Prop) → Prop} (ho : OpR X (compareOp op) r) (hd : D2 X.K r F) (ha : DE X W a ta) (hb : DE X W b tb) (hm : behindInMarks op b = false := by first | exact nomark _ | rfl) : DT X W (.Compare a [op] [b] pos) (dTest (dOp2 F ta tb)) :=
  PT.imp (pt_cmpR ho ha hb hm) fun σ H Q h => by
    obtain ⟨w, M, ρ, Q0, E0, s, h, k, x⟩ := h
    exact op2_lift hd σ H _ (test_lift σ H Q ⟨w, M, ρ, Q0, E0, s, h, k, x⟩)
/-- an expression whose value is a bool, as a test -/
theorem dt_val (h : DE X W a ta) (he : ∀ whole, isTrue a X.env whole = (do let v ← whole; standAt a.pos; holding [v] (truthy v)) := by intro _; rfl) : DT X W a (dTest ta) :=
  PT.imp (pt_val h he) fun σ H Q q => test_lift σ H Q q
/-- truth of any value -/
def pTru : PyData → (Bool → Prop) → Prop
  | .none, k => k false
  | .bool b, k => k b
  | .int i, k => k (i != 0)
  | .str x, k => x.length ≤ sizeLine ∧ k ((x.length : Int) != 0)
  | .list xs, k => k (!xs.isEmpty)
  | .tuple xs, k => k (!xs.isEmpty)
  | .dict _, _ => False
def dTruth (t : DTE) : DTT := fun ρ M Q E => t ρ M (fun x M1 => vw M1 x fun a => pTru a fun b => Q b M1) E
theorem RpAll.isEmpty {K : PySem.W.Frag} {S : Hp} {xs : List V} {ds : List PyData} (r : RpAll K S xs ds) : xs.isEmpty = ds.isEmpty := by cases r <;> rfl
theorem tru_of {K : PySem.W.Frag} {w : Wd} {M : Mem} {H : Hp} (s : SatM K w M H) {v : V} {d : PyData} {k : Bool → Prop} (r : Rv K w.S H v d) (h : pTru d k) : ∃ b, TruV K v H b ∧ k b := by
  cases r with
  | non => exact ⟨_, rfl, h⟩
  | bl b => exact ⟨_, rfl, h⟩
  | int i => exact ⟨_, rfl, h⟩
  | str x => exact ⟨_, ⟨h.1, rfl⟩, h.2⟩
  | lst q r => exact ⟨_, .inl ⟨_, SqL.of q, rfl⟩, by rw [RpAll.isEmpty r]; exact h⟩
  | tup q r => exact ⟨_, .inr (.inl ⟨_, SqT.mono s.sub q, rfl⟩), by rw [RpAll.isEmpty r]; exact h⟩
theorem dt_truth (h : DE X W a ta) (he : ∀ whole, isTrue a X.env whole = (do let v ← whole; standAt a.pos; holding [v] (truthy v)) := by intro _; rfl) : DT X W a (dTruth ta) :=
  PT.imp (pt_truth h he) fun σ H Q ⟨w, M, ρ, Q0, E0, s, h, k, x⟩ => by
    refine ⟨w, M, ρ, _, E0, s, h, fun d1 M1 w1 v1 H1 h1 l1 s1 r1 => ?_, x⟩
    obtain ⟨p, q1, h2⟩ := vw_elim s1 r1 h1
    obtain ⟨b, q2, h3⟩ := tru_of s1 q1 h2
    exact ⟨b, q2, k b M1 w1 H1 h3 l1 s1⟩
def dNot (t : DTT) : DTT := fun ρ M Q E => t ρ M (fun b M1 => Q (!b) M1) E
theorem dt_not {t : DTT} (h : DT X W a t) : DT X W (.UnaryOp .Not a pos) (dNot t) := PT.imp (pt_not h) fun σ H Q ⟨w, M, ρ, Q0, E0, s, h, k, x⟩ =>
  ⟨w, M, ρ, _, E0, s, h, fun b M1 w1 H1 h1 l1 s1 => k _ M1 w1 H1 h1 l1 s1, x⟩
def dAnd (t u : DTT) : DTT := fun ρ M Q E => t ρ M (fun b M1 => if b = true then u ρ M1 Q E else Q false M1) E
def dOr (t u : DTT) : DTT := fun ρ M Q E => t ρ M (fun b M1 => if b = true then Q true M1 else u ρ M1 Q E) E
variable {t u : DTT} {rest : List Expr}
theorem dw_and1 (h : DT X W a t) : DW X W (.BoolOp .And [a] pos) t := pw_and1 h
theorem dw_or1 (h : DT X W a t) : DW X W (.BoolOp .Or [a] pos) t := pw_or1 h
theorem dw_and (ha : DT X W a t) (hb : DW X W (.BoolOp .And (b :: rest) pos) u) : DW X W (.BoolOp .And (a :: b :: rest) pos) (dAnd t u) := PW.imp (pw_and ha hb) fun σ H Q ⟨w, M, ρ, Q0, E0, s, h, k, x⟩ =>
  ⟨w, M, ρ, _, E0, s, h, fun b M1 w1 H1 h1 l1 s1 => by
    cases b with
    | true => exact ⟨w1, M1, ρ, Q0, E0, ⟨s1, s.s.mono l1⟩, h1, fun b' M' w' H' h' l' s' => k b' M' w' H' h' (l1.trans l') s', x.le l1⟩
    | false => exact k false M1 w1 H1 h1 l1 s1, x⟩
theorem dw_or (ha : DT X W a t) (hb : DW X W (.BoolOp .Or (b :: rest) pos) u) : DW X W (.BoolOp .Or (a :: b :: rest) pos) (dOr t u) := PW.imp (pw_or ha hb) fun σ H Q ⟨w, M, ρ, Q0, E0, s, h, k, x⟩ =>
  ⟨w, M, ρ, _, E0, s, h, fun b M1 w1 H1 h1 l1 s1 => by
    cases b with
    | false => exact ⟨w1, M1, ρ, Q0, E0, ⟨s1, s.s.mono l1⟩, h1, fun b' M' w' H' h' l' s' => k b' M' w' H' h' (l1.trans l') s', x.le l1⟩
    | true => exact k true M1 w1 H1 h1 l1 s1, x⟩
theorem DW.dt (h : DW X W a t) : DT X W a t := PW.pt h
/-- and, or, not as values (of bools, the last one any value) -/
def dAndV (ta tb : DTE) : DTE := fun ρ M Q E => ta ρ M (fun x M1 => asB x fun b => if b = true then tb ρ M1 Q E else Q (.val (.bool false)) M1) E
def dOrV (ta tb : DTE) : DTE := fun ρ M Q E => ta ρ M (fun x M1 => asB x fun b => if b = true then Q (.val (.bool true)) M1 else tb ρ M1 Q E) E
def dNotV (ta : DTE) : DTE := fun ρ M Q E => ta ρ M (fun x M1 => asB x fun b => Q (.val (.bool (!b))) M1) E
theorem de_one {op : PySem.BoolOp} (h : DE X W a ta) : DE X W (.BoolOp op [a] pos) ta := pe_one h
theorem de_and (ha : DE X W a ta) (hb : DE X W (.BoolOp .And (b :: rest) pos) tb) : DE X W (.BoolOp .And (a :: b :: rest) pos) (dAndV ta tb) := PE.imp (pe_and ha hb) fun σ H Q ⟨w, M, ρ, Q0, E0, s, h, k, x⟩ =>
  ⟨w, M, ρ, _, E0, s, h, fun b M1 w1 v1 H1 h1 l1 s1 r1 => by
    obtain ⟨c, rfl, rfl, h2⟩ := bool_of r1 h1
    refine ⟨c, rfl, ?_⟩
    cases c with
    | true => exact ⟨w1, M1, ρ, Q0, E0, ⟨s1, s.s.mono l1⟩, h2, k.le l1, x.le l1⟩
    | false => exact k _ M1 w1 _ H1 h2 l1 s1 (Rp.bl false), x⟩
theorem de_or (ha : DE X W a ta) (hb : DE X W (.BoolOp .Or (b :: rest) pos) tb) : DE X W (.BoolOp .Or (a :: b :: rest) pos) (dOrV ta tb) := PE.imp (pe_or ha hb) fun σ H Q ⟨w, M, ρ, Q0, E0, s, h, k, x⟩ =>
  ⟨w, M, ρ, _, E0, s, h, fun b M1 w1 v1 H1 h1 l1 s1 r1 => by
    obtain ⟨c, rfl, rfl, h2⟩ := bool_of r1 h1
    refine ⟨c, rfl, ?_⟩
    cases c with
    | false => exact ⟨w1, M1, ρ, Q0, E0, ⟨s1, s.s.mono l1⟩, h2, k.le l1, x.le l1⟩
    | true => exact k _ M1 w1 _ H1 h2 l1 s1 (Rp.bl true), x⟩
theorem de_not (ha : DE X W a ta) : DE X W (.UnaryOp .Not a pos) (dNotV ta) := PE.imp (pe_not ha) fun σ H Q ⟨w, M, ρ, Q0, E0, s, h, k, x⟩ =>
  ⟨w, M, ρ, _, E0, s, h, fun b M1 w1 v1 H1 h1 l1 s1 r1 => by
    obtain ⟨c, rfl, rfl, h2⟩ := bool_of r1 h1
    exact ⟨c, rfl, k _ M1 w1 _ H1 h2 l1 s1 (Rp.bl _)⟩, x⟩
/-- a if t else b -/
def dIf (t : DTT) (ta tb : DTE) : DTE := fun ρ M Q E => t ρ M (fun c M1 => if c = true then ta ρ M1 Q E else tb ρ M1 Q E) E
theorem de_if (hc : DT X W c t) (ha : DE X W a ta) (hb : DE X W b tb) : DE X W (.IfExp c a b pos) (dIf t ta tb) := PE.imp (pe_ifExp hc ha hb) fun σ H Q ⟨w, M, ρ, Q0, E0, s, h, k, x⟩ =>
  ⟨w, M, ρ, _, E0, s, h, fun c M1 w1 H1 h1 l1 s1 => by
    cases c with
    | true => exact ⟨w1, M1, ρ, Q0, E0, ⟨s1, s.s.mono l1⟩, h1, k.le l1, x.le l1⟩
    | false => exact ⟨w1, M1, ρ, Q0, E0, ⟨s1, s.s.mono l1⟩, h1, k.le l1, x.le l1⟩, x⟩
/-- a < b < c -/
def dChain (F G : PyData → PyData → (PyData → Prop) → Prop) (ta tb tc : DTE) : DTE := fun ρ M Q E => ta ρ M (fun x M1 => tb ρ M1 (fun y M2 => vw M2 x fun a => vw M2 y fun b => F a b fun d => bOf d fun k =>
  if k = true then tc ρ M2 (fun z M3 => vw M3 y fun b' => vw M3 z fun c => G b' c fun d => Q (.val d) M3) E else Q (.val (.bool false)) M2) E) E
theorem chain_lift {K : PySem.W.Frag} {r r' : R2} {F G : PyData → PyData → (PyData → Prop) → Prop} (hd : D2 K r F) (hd' : D2 K r' G) (σ : St) (H : Hp) (Q : VK) (h : liftE K W (dChain F G ta tb tc) σ H Q) : tChain r r' (liftE K W ta) (liftE K W tb) (liftE K W tc) σ H Q := by
  obtain ⟨w, M, ρ, Q0, E0, s, h, k, x⟩ := h
  refine ⟨w, M, ρ, _, E0, s, h, fun d1 M1 w1 v1 H1 h1 l1 s1 r1 => ?_, x⟩
  refine ⟨w1, M1, ρ, _, E0, ⟨s1, s.s.mono l1⟩, h1, fun d2 M2 w2 v2 H2 h2 l2 s2 r2 => ?_, x.le l1⟩
  obtain ⟨p, q1, h3⟩ := vw_elim s2 (RelDV.mono l2 r1) h2
  obtain ⟨p', q2, h4⟩ := vw_elim s2 r2 h3
  refine hd w2 M2 H2 v1 v2 p p' _ _ s2 q1 q2 h4 fun d w3 v H3 h5 l3 s3 r3 => ?_
  obtain ⟨b, rfl, h6⟩ := bOf_elim h5
  cases r3
  refine ⟨b, rfl, ?_⟩
  have l13 := l1.trans (l2.trans l3)
  cases b with
  | true =>
    rw [if_pos rfl] at h6
    rw [if_pos rfl]
    refine ⟨w3, M2, ρ, _, E0, ⟨s3, s.s.mono l13⟩, h6, fun d4 M4 w4 v4 H4 h7 l4 s4 r4 => ?_, x.le l13⟩
    obtain ⟨p2, q4, h8⟩ := vw_elim s4 (RelDV.mono (l3.trans l4) r2) h7
    obtain ⟨p3, q5, h9⟩ := vw_elim s4 r4 h8
    exact hd' w4 M4 H4 v2 v4 p2 p3 _ Q s4 q4 q5 h9 (ROk.of k (l13.trans l4))
  | false =>
    rw [if_neg Bool.false_ne_true] at h6
    rw [if_neg Bool.false_ne_true]
    exact k _ M2 w3 _ H3 h6 l13 s3 (Rp.bl false)
theorem de_chain {op op' : CmpOp} {r r' : R2} {F G : PyData → PyData → (PyData → Prop) → Prop} (ho : OpR X (compareOp op) r) (ho' : OpR X (compareOp op') r') (hd : D2 X.K r F) (hd' : D2 X.K r' G) (ha : DE X W a ta) (hb : DE X W b tb) (hc : DE X W c tc)
    (hm : lastMarks [op, op'] [b, c] = false := by with_unfolding_all rfl) : DE X W (.Compare a [op, op'] [b, c] pos) (dChain F G ta tb tc) :=
  PE.imp (pe_chain ho ho' ha hb hc hm) fun σ H Q h => chain_lift hd hd' σ H Q h
theorem dt_chain {op op' : CmpOp} {r r' : R2} {F G : PyData → PyData → (PyData → Prop) → Prop} (ho : OpR X (compareOp op) r) (ho' : OpR X (compareOp op') r') (hd : D2 X.K r F) (hd' : D2 X.K r' G) (ha : DE X W a ta) (hb : DE X W b tb) (hc : DE X W c tc)
    (hm : lastMarks [op, op'] [b, c] = false := by with_unfolding_all rfl) : DT X W (.Compare a [op, op'] [b, c] pos) (dTest (dChain F G ta tb tc)) :=
  PT.imp (pt_chain ho ho' ha hb hc hm) fun σ H Q h => by
    obtain ⟨w, M, ρ, Q0, E0, s, h, k, x⟩ := h
    exact chain_lift hd hd' σ H _ (test_lift σ H Q ⟨w, M, ρ, Q0, E0, s, h, k, x⟩)
end
end DL

set_option Elab.async false
set_option linter.all false
set_option maxRecDepth 100000
set_option maxHeartbeats 4000000
namespace DL
open PySem PySem.Spec PyProof.Rows L2

/-! ### operators by data -/
theorem tuple_mulS (l : Addr) (items : Array Value) (n : Nat) (dd : Option Addr) (sl : Array (Option Value)) (x : Int) (u : Tok) (c0 : (decide (x < -(2 ^ 63)) || decide (x ≥ 2 ^ 63)) = false) (c1 : (items.isEmpty || x == 1) = true) :
    Meets (Builtin.«tuple.__mul__» ⟨[.ref l, .int x u], []⟩) (fun _ R s => s.heap.get? l = some { cls := .type "tuple", dict := dd, data := .seq items n, slots := sl } ∧ R (.ok (.ret (Value.ref l))) s) :=
  .of_wp fun prog w A R s h => by
    obtain ⟨hp, g, d, tk, os⟩ := s
    obtain ⟨hl, h⟩ := h
    have f1 := AutoSeq1.idx_int
    wp_walk using wpAny_loadPart' hl
    repeat (first
      | (refine wpAny_ite_false (decide_eq_false (by rw [c0]; exact Bool.false_ne_true)) ?_; wp_walk using wpAny_loadPart' hl)
      | (refine wpAny_ite_true (decide_eq_true (by rw [c1])) ?_; wp_walk using wpAny_loadPart' hl))
    exact ⟨_, rfl, h⟩
/-- tuple * int where the tuple itself comes back -/
def rRepS (K : PySem.W.Frag) : R2 := fun x y H Q => ∃ l k xs, x = .ref l ∧ y = .int k ∧ SqT K H l xs ∧ -(2 ^ 63) ≤ k ∧ k < 2 ^ 63 ∧ (xs = [] ∨ k = 1) ∧ Q (.ref l) H
theorem op_repS {X : Cx} : OpR X (binaryOp .Mult) (rRepS X.K) := by
  intro pins s σ H x y v u Q I rx ry h
  obtain ⟨l, k, xs, rfl, rfl, hT, h1, h2, hk, q⟩ := h
  cases rx
  obtain ⟨t, rfl⟩ := ry
  obtain ⟨its, r, ⟨⟨cls, dd, data, sl⟩, ho, hc, n, hd⟩, hs⟩ := I.tuple hT
  simp only at hc hd
  subst hc hd
  have c0 : (decide (k < -(2 ^ 63)) || decide (k ≥ 2 ^ 63)) = false := by
    rw [decide_eq_false (by omega), decide_eq_false (by omega)] <;> rfl
  have c1 : (its.toArray.isEmpty || k == 1) = true := by
    rcases hk with rfl | rfl
    · cases r
      rfl
    · simp
  exact wpAny_binaryOp_repeat_ref (T := "tuple") (U := "int") (by decide) ⟨_, ho, rfl⟩ (fun s' => typeIs_int s' k t) noFill_tuple_mul F.fills_int_mul F.slot_int_rmul repeat_tuple F.slot_int_index.lookup
    (call_meets F.slot_int_rmul (typeIs_int s k t) F.entry_int_rmul (F.args_int_rmul_2 _ _) (int_rmul_tuple k t l its.toArray n dd sl)
      ⟨ho, rfl, ⟨_, ho, rfl⟩, call_meets F.slot_tuple_mul ⟨_, ho, rfl⟩ F.entry_tuple_mul (F.args_tuple_mul_2 _ _) (tuple_mulS l its.toArray n dd sl k t c0 c1) ⟨ho, ⟨.ref l, H, I, rfl, q⟩⟩⟩)

def pAdd : PyData → PyData → (PyData → Prop) → Prop
  | .int i, .int j, k => k (.int (i + j))
  | .str a, .str b, k => a.length + b.length ≤ sizeLine ∧ k (.str (a ++ b))
  | .tuple a, .tuple b, k => a.length + b.length ≤ sizeLine ∧ k (.tuple (a ++ b))
  | .list a, .list b, k => a.length + b.length ≤ sizeLine ∧ k (.list (a ++ b))
  | _, _, _ => False
def pInt (g : Int → Int → PyData) : PyData → PyData → (PyData → Prop) → Prop
  | .int i, .int j, k => k (g i j)
  | _, _, _ => False
def pIntC (C : Int → Int → Prop) (g : Int → Int → PyData) : PyData → PyData → (PyData → Prop) → Prop
  | .int i, .int j, k => C i j ∧ k (g i j)
  | _, _, _ => False
abbrev pSub := pInt fun i j => .int (i - j)
def CMulA (i j : Int) : Prop := CMul i j ∨ CMulW i j
def pMul : PyData → PyData → (PyData → Prop) → Prop
  | .int i, .int j, k => CMulA i j ∧ k (.int (i * j))
  | .list a, .int j, k => -(2 ^ 63) ≤ j ∧ j < 2 ^ 63 ∧ a.length * j.toNat ≤ sizeLine ∧ k (.list (List.replicate j.toNat a).flatten)
  | .tuple a, .int j, k => -(2 ^ 63) ≤ j ∧ j < 2 ^ 63 ∧ (a = [] ∨ j = 1 ∨ (2 ≤ j ∧ j ≤ 1000 ∧ a.length ≤ 1000)) ∧ k (.tuple (List.replicate j.toNat a).flatten)
  | _, _, _ => False
abbrev pDiv := pIntC CDivW fun i j => .int (i / j)
abbrev pMod := pIntC (fun _ j => 0 < j) fun i j => .int (i % j)
abbrev pLt := pInt fun i j => .bool (decide (i < j))
abbrev pLe := pInt fun i j => .bool (decide (i ≤ j))
abbrev pGt := pInt fun i j => .bool (decide (j < i))
abbrev pGe := pInt fun i j => .bool (decide (j ≤ i))
def pEq (a b : PyData) (k : PyData → Prop) : Prop := SeqAt.shaped a = true ∧ SeqAt.shaped b = true ∧ k (.bool (PyData.eqv a b))
def pNe (a b : PyData) (k : PyData → Prop) : Prop := SeqAt.shaped a = true ∧ SeqAt.shaped b = true ∧ k (.bool (!PyData.eqv a b))
def isNone : PyData → Bool
  | .none => true
  | _ => false
def pIsN (a b : PyData) (k : PyData → Prop) : Prop := match b with
  | .none => k (.bool (isNone a))
  | _ => False
def pIsNotN (a b : PyData) (k : PyData → Prop) : Prop := match b with
  | .none => k (.bool (!isNone a))
  | _ => False
def pIsB : PyData → PyData → (PyData → Prop) → Prop
  | .bool i, .bool j, k => k (.bool (decide (i = j)))
  | _, _, _ => False
def pIsNotB : PyData → PyData → (PyData → Prop) → Prop
  | .bool i, .bool j, k => k (.bool (!decide (i = j)))
  | _, _, _ => False
def pIn (a b : PyData) (k : PyData → Prop) : Prop := match b with
  | .list ds => SeqAt.shaped a = true ∧ SeqAt.shaped (.list ds) = true ∧ k (.bool (ds.any fun z => PyData.eqv z a))
  | .tuple ds => SeqAt.shaped a = true ∧ SeqAt.shaped (.tuple ds) = true ∧ k (.bool (ds.any fun z => PyData.eqv z a))
  | _ => False
def pNotIn (a b : PyData) (k : PyData → Prop) : Prop := match b with
  | .list ds => SeqAt.shaped a = true ∧ SeqAt.shaped (.list ds) = true ∧ k (.bool (!ds.any fun z => PyData.eqv z a))
  | .tuple ds => SeqAt.shaped a = true ∧ SeqAt.shaped (.tuple ds) = true ∧ k (.bool (!ds.any fun z => PyData.eqv z a))
  | _ => False
def pIx (a b : PyData) (k : PyData → Prop) : Prop := match a, b with
  | .list ds, .int i => ∃ d, atI ds i = some d ∧ k d
  | .tuple ds, .int i => ∃ d, atI ds i = some d ∧ k d
  | .str z, .int i => z.length ≤ sizeLine ∧ ∃ c, atI z.cps.toList i = some c ∧ k (.str ⟨#[c]⟩)
  | _, _ => False

section
variable {K : PySem.W.Frag}
theorem RpAll.len {S : Hp} {xs : List V} {ds : List PyData} (r : RpAll K S xs ds) : ds.length = xs.length := (RpAll.length r).symm
/-- a new stable tuple, list -/
theorem ROk.tup {w : Wd} {M : Mem} {H : Hp} {k : PyData → Prop} {Q : VK} (s : SatM K w M H) (q : ROk K w M k Q) {xs : List V} {ds : List PyData} (r : RpAll K w.S xs ds) (h : k (.tuple ds)) : ∀ p, H p = none → Q (.ref p) (upd H p (.tup xs)) := fun p hp =>
  q _ _ _ _ h (.more (s.noS hp)) (s.grow _ hp) (.tup (SqT.of upd_same) (RpAll.mono (Wd.Le.more (o := .tup xs) (s.noS hp)).s r))
theorem ROk.lst {w : Wd} {M : Mem} {H : Hp} {k : PyData → Prop} {Q : VK} (s : SatM K w M H) (q : ROk K w M k Q) {xs : List V} {ds : List PyData} (r : RpAll K w.S xs ds) (h : k (.list ds)) : ∀ p, H p = none → Q (.ref p) (upd H p (.lst xs)) := fun p hp =>
  q _ _ _ _ h (.more (s.noS hp)) (s.grow _ hp) (.lst upd_same (RpAll.mono (Wd.Le.more (o := .lst xs) (s.noS hp)).s r))
theorem ROk.flat {w : Wd} {M : Mem} {H : Hp} {k : PyData → Prop} {Q : VK} (s : SatM K w M H) (q : ROk K w M k Q) {v : V} {d : PyData} (r : Rp K w.S v d) (h : k d) : Q v H := q _ _ _ _ h (.refl w) s r
theorem d2_or1 {r r' : R2} {F : PyData → PyData → (PyData → Prop) → Prop} (h : D2 K r F) : D2 K (fun x y H Q => r x y H Q ∨ r' x y H Q) F := fun w M H vx vy a b k Q s ra rb f q => .inl (h w M H vx vy a b k Q s ra rb f q)
theorem d2_int {g : Int → Int → PyData} {gV : Int → Int → V} (h : ∀ S i j, Rp K S (gV i j) (g i j)) : D2 K (rI0 gV) (pInt g) := fun w M H vx vy a b k Q s ra rb f q => by
  cases ra <;> try exact f.elim
  cases rb <;> try exact f.elim
  exact ⟨_, _, rfl, rfl, q.flat s (h _ _ _) f⟩
theorem d2_intC {C : Int → Int → Prop} {g : Int → Int → PyData} {gV : Int → Int → V} (h : ∀ S i j, Rp K S (gV i j) (g i j)) : D2 K (rI C gV) (pIntC C g) := fun w M H vx vy a b k Q s ra rb f q => by
  cases ra <;> try exact f.elim
  cases rb <;> try exact f.elim
  exact ⟨_, _, rfl, rfl, f.1, q.flat s (h _ _ _) f.2⟩
theorem d2_sub : D2 K (rI0 fun i j => .int (i - j)) pSub := d2_int fun _ _ _ => .int _
theorem d2_lt : D2 K (rI0 fun i j => .bl (decide (i < j))) pLt := d2_int fun _ _ _ => .bl _
theorem d2_le : D2 K (rI0 fun i j => .bl (decide (i ≤ j))) pLe := d2_int fun _ _ _ => .bl _
theorem d2_gt : D2 K (rI0 fun i j => .bl (decide (j < i))) pGt := d2_int fun _ _ _ => .bl _
theorem d2_ge : D2 K (rI0 fun i j => .bl (decide (j ≤ i))) pGe := d2_int fun _ _ _ => .bl _
theorem d2_div : D2 K (rI CDivW fun i j => .int (i / j)) pDiv := d2_intC fun _ _ _ => .int _
theorem d2_mod : D2 K (rI (fun _ j => 0 < j) fun i j => .int (i % j)) pMod := d2_intC fun _ _ _ => .int _
abbrev rAddA (K : PySem.W.Frag) : R2 := fun x y H Q => (rI0 fun i j => .int (i + j)) x y H Q ∨ ((∃ i j, x = .str i ∧ y = .str j ∧ i.length + j.length ≤ sizeLine ∧ Q (.str (i ++ j)) H) ∨ (rCatA K x y H Q ∨ rCat x y H Q))
theorem opa_add {X : Cx} : OpR X (binaryOp .Add) (rAddA X.K) := op_add.or (op_add_str.or (op_catA.or op_cat))
theorem d2_add : D2 K (rAddA K) pAdd := fun w M H vx vy a b k Q s ra rb f q => by
  cases ra with
  | int i =>
    cases rb <;> try exact f.elim
    exact .inl ⟨_, _, rfl, rfl, q.flat s (.int _) f⟩
  | str x =>
    cases rb <;> try exact f.elim
    exact .inr (.inl ⟨_, _, rfl, rfl, f.1, q.flat s (.str _) f.2⟩)
  | @tup p1 xs ds h1 r1 =>
    cases rb with
    | @tup p2 ys es h2 r2 =>
      have f : _ ∧ _ := f
      have l1 := RpAll.len r1
      have l2 := RpAll.len r2
      refine .inr (.inr (.inl ⟨_, _, xs, ys, rfl, rfl, SqT.mono s.sub h1, SqT.mono s.sub h2, by rw [← l1, ← l2]; exact f.1, fun e => ?_, fun _ e => ?_, fun _ _ => ?_⟩))
      · subst e
        cases r1
        exact q.flat s (.tup h2 r2) f.2
      · subst e
        cases r2
        refine q.flat s (.tup h1 r1) ?_
        have := f.2
        rw [List.append_nil] at this
        exact this
      · exact q.tup s (RpAll.append r1 r2) f.2
    | _ => exact f.elim
  | @lst p1 xs ds h1 r1 =>
    cases rb with
    | @lst p2 ys es h2 r2 =>
      have f : _ ∧ _ := f
      have l1 := RpAll.len r1
      have l2 := RpAll.len r2
      exact .inr (.inr (.inr ⟨_, _, xs, ys, rfl, rfl, h1, h2, by rw [← l1, ← l2]; exact f.1, q.lst s (RpAll.append r1 r2) f.2⟩))
    | _ => exact f.elim
  | _ => exact f.elim
theorem RpAll.flatRep {S : Hp} {xs : List V} {ds : List PyData} (r : RpAll K S xs ds) : ∀ n : Nat, RpAll K S (List.replicate n xs).flatten (List.replicate n ds).flatten
  | 0 => .nil
  | n + 1 => by
    rw [List.replicate_succ, List.replicate_succ, List.flatten_cons, List.flatten_cons]
    exact RpAll.append r (RpAll.flatRep r n)
abbrev rMulA (K : PySem.W.Frag) : R2 := fun x y H Q => (rI CMul fun i j => .int (i * j)) x y H Q ∨ ((rI CMulW fun i j => .int (i * j)) x y H Q ∨ (rRep x y H Q ∨ (rRepT K x y H Q ∨ rRepS K x y H Q)))
theorem opa_mul {X : Cx} : OpR X (binaryOp .Mult) (rMulA X.K) := op_mul.or (op_mulW.or (op_rep.or (op_repT.or op_repS)))
theorem d2_mul : D2 K (rMulA K) pMul := fun w M H vx vy a b k Q s ra rb f q => by
  cases ra with
  | int i =>
    cases rb <;> try exact f.elim
    rcases f with ⟨f | f, g⟩
    · exact .inl ⟨_, _, rfl, rfl, f, q.flat s (.int _) g⟩
    · exact .inr (.inl ⟨_, _, rfl, rfl, f, q.flat s (.int _) g⟩)
  | lst h1 r1 =>
    cases rb <;> try exact f.elim
    obtain ⟨f1, f2, f3, f4⟩ := f
    exact .inr (.inr (.inl ⟨_, _, _, rfl, rfl, h1, f1, f2, by rw [← RpAll.len r1]; exact f3, q.lst s (RpAll.flatRep r1 _) f4⟩))
  | @tup p1 xs1 ds0 h1 r1 =>
    cases rb <;> try exact f.elim
    rename_i j
    obtain ⟨f0, f1, f2, f4⟩ := f
    by_cases h : ds0 = [] ∨ j = 1
    · refine .inr (.inr (.inr (.inr ⟨_, _, _, rfl, rfl, SqT.mono s.sub h1, f0, f1, ?_, ?_⟩)))
      · rcases h with h | h
        · subst h
          cases r1
          exact .inl rfl
        · exact .inr h
      · refine q.flat s (.tup h1 r1) ?_
        have e : (List.replicate j.toNat ds0).flatten = ds0 := by
          rcases h with h | h
          · subst h; simp
          · subst h; simp
        rw [e] at f4
        exact f4
    · have f2 : 2 ≤ j ∧ j ≤ 1000 ∧ ds0.length ≤ 1000 := by
        rcases f2 with z | z | z
        · exact (h (.inl z)).elim
        · exact (h (.inr z)).elim
        · exact z
      refine .inr (.inr (.inr (.inl ⟨_, _, _, rfl, rfl, SqT.mono s.sub h1, fun z => h (.inl ?_), f2.1, f2.2.1, by rw [← RpAll.len r1]; exact f2.2.2, q.tup s (RpAll.flatRep r1 _) f4⟩)))
      subst z
      cases r1
      rfl
  | _ => exact f.elim
theorem d2_eq : D2 K (rEqD K) pEq := fun w M H vx vy a b k Q s ra rb ⟨f1, f2, f3⟩ q => ⟨a, b, Rp.dp (Rv.rp s.sub ra), Rp.dp (Rv.rp s.sub rb), f1, f2, q.flat s (.bl _) f3⟩
theorem d2_ne : D2 K (rNeD K) pNe := fun w M H vx vy a b k Q s ra rb ⟨f1, f2, f3⟩ q => ⟨a, b, Rp.dp (Rv.rp s.sub ra), Rp.dp (Rv.rp s.sub rb), f1, f2, q.flat s (.bl _) f3⟩
theorem Rv.isNone {S H : Hp} {v : V} {d : PyData} (r : Rv K S H v d) : decide (v = .non) = DL.isNone d := by
  cases r <;> first | rfl | (exact decide_eq_false (fun z => nomatch z))
theorem d2_isN : D2 K (fun x y H Q => y = .non ∧ Q (.bl (decide (x = .non))) H) pIsN := fun w M H vx vy a b k Q s ra rb f q => by
  cases rb <;> try exact f.elim
  exact ⟨rfl, by rw [Rv.isNone ra]; exact q.flat s (.bl _) f⟩
theorem d2_isNotN : D2 K (fun x y H Q => y = .non ∧ Q (.bl (!decide (x = .non))) H) pIsNotN := fun w M H vx vy a b k Q s ra rb f q => by
  cases rb <;> try exact f.elim
  exact ⟨rfl, by rw [Rv.isNone ra]; exact q.flat s (.bl _) f⟩
theorem d2_isB : D2 K (fun x y H Q => ∃ a b, x = .bl a ∧ y = .bl b ∧ Q (.bl (decide (a = b))) H) pIsB := fun w M H vx vy a b k Q s ra rb f q => by
  cases ra <;> try exact f.elim
  cases rb <;> try exact f.elim
  exact ⟨_, _, rfl, rfl, q.flat s (.bl _) f⟩
theorem d2_isNotB : D2 K (fun x y H Q => ∃ a b, x = .bl a ∧ y = .bl b ∧ Q (.bl (!decide (a = b))) H) pIsNotB := fun w M H vx vy a b k Q s ra rb f q => by
  cases ra <;> try exact f.elim
  cases rb <;> try exact f.elim
  exact ⟨_, _, rfl, rfl, q.flat s (.bl _) f⟩
/-- x in a tuple of data of any depth -/
def rInT (K : PySem.W.Frag) : R2 := fun x y H Q => ∃ d ds, Dp K H x d ∧ Dp K H y (.tuple ds) ∧ SeqAt.shaped d = true ∧ SeqAt.shaped (.tuple ds) = true ∧ Q (.bl (ds.any fun z => PyData.eqv z d)) H
def rNotInT (K : PySem.W.Frag) : R2 := fun x y H Q => ∃ d ds, Dp K H x d ∧ Dp K H y (.tuple ds) ∧ SeqAt.shaped d = true ∧ SeqAt.shaped (.tuple ds) = true ∧ Q (.bl (!ds.any fun z => PyData.eqv z d)) H
theorem op_inT {X : Cx} (hu : X.A.units + 65 < cLine) : OpR X (compareOp .In) (rInT X.K) := by
  intro pins s σ H x y v u Q I rx ry h
  obtain ⟨d, ds, hd, he, sd, se, q⟩ := h
  obtain ⟨as, r1⟩ := Dp.reads I d x v hd rx
  obtain ⟨bs, r2⟩ := Dp.reads I (.tuple ds) y u he ry
  exact SeqAt.in_tuple_reads r2 r1 (SeqAt.canLay_of_shaped se) (SeqAt.canLay_of_shaped sd) (room_in_shaped sd hu) ⟨.bl _, H, I, rfl, q⟩
theorem op_notInT {X : Cx} (hu : X.A.units + 65 < cLine) : OpR X (compareOp .NotIn) (rNotInT X.K) := by
  intro pins s σ H x y v u Q I rx ry h
  obtain ⟨d, ds, hd, he, sd, se, q⟩ := h
  obtain ⟨as, r1⟩ := Dp.reads I d x v hd rx
  obtain ⟨bs, r2⟩ := Dp.reads I (.tuple ds) y u he ry
  exact SeqAt.notIn_tuple_reads r2 r1 (SeqAt.canLay_of_shaped se) (SeqAt.canLay_of_shaped sd) (room_in_shaped sd hu) ⟨.bl _, H, I, rfl, q⟩
theorem opa_in {X : Cx} (hu : X.A.units + 65 < cLine) : OpR X (compareOp .In) (fun x y H Q => rInD X.K x y H Q ∨ rInT X.K x y H Q) := (op_inD hu).or (op_inT hu)
theorem opa_notIn {X : Cx} (hu : X.A.units + 65 < cLine) : OpR X (compareOp .NotIn) (fun x y H Q => rNotInD X.K x y H Q ∨ rNotInT X.K x y H Q) := (op_notInD hu).or (op_notInT hu)
theorem d2_in : D2 K (fun x y H Q => rInD K x y H Q ∨ rInT K x y H Q) pIn := fun w M H vx vy a b k Q s ra rb f q => by
  have db := Rp.dp (Rv.rp s.sub rb)
  cases rb <;> try exact f.elim
  · exact .inl ⟨_, _, Rp.dp (Rv.rp s.sub ra), db, f.1, f.2.1, q.flat s (.bl _) f.2.2⟩
  · exact .inr ⟨_, _, Rp.dp (Rv.rp s.sub ra), db, f.1, f.2.1, q.flat s (.bl _) f.2.2⟩
theorem d2_notIn : D2 K (fun x y H Q => rNotInD K x y H Q ∨ rNotInT K x y H Q) pNotIn := fun w M H vx vy a b k Q s ra rb f q => by
  have db := Rp.dp (Rv.rp s.sub rb)
  cases rb <;> try exact f.elim
  · exact .inl ⟨_, _, Rp.dp (Rv.rp s.sub ra), db, f.1, f.2.1, q.flat s (.bl _) f.2.2⟩
  · exact .inr ⟨_, _, Rp.dp (Rv.rp s.sub ra), db, f.1, f.2.1, q.flat s (.bl _) f.2.2⟩
theorem RpAll.atI {S : Hp} {xs : List V} {ds : List PyData} (r : RpAll K S xs ds) {i : Int} {d : PyData} (h : L2.atI ds i = some d) : ∃ v, L2.atI xs i = some v ∧ Rp K S v d := by
  unfold L2.atI at h ⊢
  rw [RpAll.length r]
  cases q : ixN ds.length i with
  | none => rw [q] at h; cases h
  | some j =>
    rw [q] at h
    obtain ⟨v, h1, h2⟩ := RpAll.get r (show ds[j]? = some d from h)
    exact ⟨v, h1, h2⟩
theorem d2_ix : D2 K (rIx K) pIx := fun w M H vx vy a b k Q s ra rb f q => by
  cases ra <;> try exact f.elim
  · cases rb <;> try exact f.elim
    obtain ⟨f0, c, f1, f2⟩ := f
    exact .inr (.inr ⟨_, _, c, rfl, rfl, f0, f1, q.flat s (.str _) f2⟩)
  · rename_i h1 r1
    cases rb <;> try exact f.elim
    obtain ⟨d, f1, f2⟩ := f
    obtain ⟨v, e1, e2⟩ := RpAll.atI r1 f1
    exact .inl ⟨_, _, _, v, rfl, rfl, SqL.of h1, e1, q.flat s e2 f2⟩
  · rename_i h1 r1
    cases rb <;> try exact f.elim
    obtain ⟨d, f1, f2⟩ := f
    obtain ⟨v, e1, e2⟩ := RpAll.atI r1 f1
    exact .inr (.inl ⟨_, _, _, v, rfl, rfl, SqT.mono s.sub h1, e1, q.flat s e2 f2⟩)
end
section
variable {X : Cx} {W : WX} {pos : Pos} {a b c : Expr} {ta tb tc : DTE}
theorem de_add (ha : DE X W a ta) (hb : DE X W b tb) : DE X W (.BinOp a .Add b pos) (dOp2 pAdd ta tb) := de_op opa_add d2_add ha hb
theorem de_sub (ha : DE X W a ta) (hb : DE X W b tb) : DE X W (.BinOp a .Sub b pos) (dOp2 pSub ta tb) := de_op op_sub d2_sub ha hb
theorem de_mul (ha : DE X W a ta) (hb : DE X W b tb) : DE X W (.BinOp a .Mult b pos) (dOp2 pMul ta tb) := de_op opa_mul d2_mul ha hb
theorem de_div (ha : DE X W a ta) (hb : DE X W b tb) : DE X W (.BinOp a .FloorDiv b pos) (dOp2 pDiv ta tb) := de_op op_fdivW d2_div ha hb
theorem de_mod (ha : DE X W a ta) (hb : DE X W b tb) : DE X W (.BinOp a .Mod b pos) (dOp2 pMod ta tb) := de_op op_mod d2_mod ha hb
theorem de_ix (ha : DE X W a ta) (hb : DE X W b tb) (hs : PlainIx b := by exact fun _ _ => rfl) : DE X W (.Subscript a b pos) (dOp2 pIx ta tb) := PE.imp (pe_ix ix_seq ha hb hs) fun σ H Q h => op2_lift d2_ix σ H Q h

def pNeg : PyData → (PyData → Prop) → Prop
  | .int i, k => k (.int (-i))
  | _, _ => False
theorem de_uneg (ha : DE X W a ta) : DE X W (.UnaryOp .USub a pos) (dOp1 pNeg ta) := PE.imp (pe_un un_neg ha) fun σ H Q ⟨w, M, ρ, Q0, E0, s, h, k, x⟩ =>
  ⟨w, M, ρ, _, E0, s, h, fun d1 M1 w1 v1 H1 h1 l1 s1 r1 => by
    obtain ⟨p, q1, h2⟩ := vw_elim s1 r1 h1
    cases q1 <;> try exact h2.elim
    exact ⟨_, rfl, k _ M1 w1 _ H1 h2 l1 s1 (Rp.int _)⟩, x⟩

/-! ### arguments, displays -/
def dNil : DTA := fun _ M Q _ => Q [] M
def dCons (ta : DTE) (tr : DTA) : DTA := fun ρ M Q E => ta ρ M (fun x M1 => tr ρ M1 (fun xs M2 => Q (x :: xs) M2) E) E
theorem da_nil : DA X W [] dNil := PA.imp pa_nil fun σ H Q ⟨w, M, ρ, Q0, E0, s, h, k, x⟩ => k [] M w [] H h (.refl w) s.m .nil
variable {es : List Expr} {tr : DTA}
theorem da_cons (ha : DE X W a ta) (hr : DA X W es tr) (hs : starEach (a :: es) X.env = (false, eval a X.env) :: starEach es X.env := by rfl) : DA X W (a :: es) (dCons ta tr) := PA.imp (pa_cons ha hr hs) fun σ H Q ⟨w, M, ρ, Q0, E0, s, h, k, x⟩ =>
  ⟨w, M, ρ, _, E0, s, h, fun d1 M1 w1 v1 H1 h1 l1 s1 r1 => ⟨w1, M1, ρ, _, E0, ⟨s1, s.s.mono l1⟩, h1, fun d2 M2 w2 v2 H2 h2 l2 s2 r2 =>
    k _ M2 w2 _ H2 h2 (l1.trans l2) s2 (.cons (RelDV.mono l2 r1) r2), x.le l1⟩, x⟩
/-- every part is stable data -/
def vals : List DV → (List PyData → Prop) → Prop
  | [], k => k []
  | .val d :: xs, k => vals xs fun ds => k (d :: ds)
  | _ :: _, _ => False
theorem vals_elim {K : PySem.W.Frag} {w : Wd} : ∀ {vs : List V} {xs : List DV} {k : List PyData → Prop}, DvAll K w vs xs → vals xs k → ∃ ds, RpAll K w.S vs ds ∧ k ds
  | _, _, _, .nil, h => ⟨[], .nil, h⟩
  | _, .val d :: _, _, .cons q r, h => by
    obtain ⟨ds, h1, h2⟩ := vals_elim r h
    exact ⟨d :: ds, .cons q h1, h2⟩
  | _, .ref _ :: _, _, .cons _ _, h => h.elim
  | _, .raw _ _ :: _, _, .cons _ _, h => h.elim
  | _, .no :: _, _, .cons _ _, h => h.elim
def dTup (t : DTA) : DTE := fun ρ M Q E => t ρ M (fun xs M1 => vals xs fun ds => ds.length ≤ sizeLine ∧ Q (.val (.tuple ds)) M1) E
/-- a new list: stable data; or a mutable one -/
def dLst (t : DTA) : DTE := fun ρ M Q E => t ρ M (fun xs M1 => vals xs fun ds => ds.length ≤ sizeLine ∧ Q (.val (.list ds)) M1) E
def dLstM (t : DTA) : DTE := fun ρ M Q E => t ρ M (fun xs M1 => vals xs fun ds => ds.length ≤ sizeLine ∧ Q (.ref M1.length) (M1 ++ [.lst ds])) E
theorem de_tup {j : Nat} (h : DA X W es tr) : DE X W (.Tuple es j pos) (dTup tr) := PE.imp (pe_tup h) fun σ H Q ⟨w, M, ρ, Q0, E0, s, h, k, x⟩ =>
  ⟨w, M, ρ, _, E0, s, h, fun d1 M1 w1 v1 H1 h1 l1 s1 r1 => by
    obtain ⟨ds, e1, e2, e3⟩ := vals_elim r1 h1
    exact ⟨by rw [RpAll.length e1]; exact e2, (ROk.of k l1).tup s1 e1 e3⟩, x⟩
theorem de_lst (h : DA X W es tr) : DE X W (.List es pos) (dLst tr) := PE.imp (pe_lst h) fun σ H Q ⟨w, M, ρ, Q0, E0, s, h, k, x⟩ =>
  ⟨w, M, ρ, _, E0, s, h, fun d1 M1 w1 v1 H1 h1 l1 s1 r1 => by
    obtain ⟨ds, e1, e2, e3⟩ := vals_elim r1 h1
    exact ⟨by rw [RpAll.length e1]; exact e2, (ROk.of k l1).lst s1 e1 e3⟩, x⟩
/-- a new mutable list as a result -/
theorem KOk.new {K : PySem.W.Frag} {w w1 : Wd} {M : Mem} {H : Hp} {Q0 : DQ} {Q : VK} (k : KOk K w Q0 Q) (l : w.Le w1) (s : SatM K w1 M H) {xs : List V} {ds : List PyData} (r : RpAll K w1.S xs ds) (h : Q0 (.ref M.length) (M ++ [.lst ds])) : ∀ p, H p = none → Q (.ref p) (upd H p (.lst xs)) := fun p hp =>
  k _ _ _ _ _ h (l.trans .push) (s.push hp r) ⟨p, [], by show (w1.ad ++ [[p]])[M.length]? = some [p]; rw [← s.len]; simp, rfl⟩
theorem de_lstM (h : DA X W es tr) : DE X W (.List es pos) (dLstM tr) := PE.imp (pe_lst h) fun σ H Q ⟨w, M, ρ, Q0, E0, s, h, k, x⟩ =>
  ⟨w, M, ρ, _, E0, s, h, fun d1 M1 w1 v1 H1 h1 l1 s1 r1 => by
    obtain ⟨ds, e1, e2, e3⟩ := vals_elim r1 h1
    exact ⟨by rw [RpAll.length e1]; exact e2, k.new l1 s1 e1 e3⟩, x⟩

/-! ### slices -/
abbrev DTO := Sl → Mem → (Option Int → Mem → Prop) → DX → Prop
def liftO (K : PySem.W.Frag) (W : WX) (t : DTO) : TO := fun σ H Q => ∃ w M ρ Q0 E0, Sat K w M ρ σ H ∧ t ρ M Q0 E0 ∧ (∀ r M' w' H', Q0 r M' → w.Le w' → SatM K w' M' H' → Q r H') ∧ XOk K W w σ E0
def DO (X : Cx) (W : WX) (e : Option Expr) (t : DTO) : Prop := PO X e (liftO X.K W t)
theorem PO.imp {e : Option Expr} {t t' : TO} (h : PO X e t) (i : ∀ σ H Q, t' σ H Q → t σ H Q) : PO X e t' := ⟨fun pins s σ H Q I q => h.run pins s σ H Q I (i _ _ _ q)⟩
def asI (x : DV) (k : Int → Prop) : Prop := match x with
  | .val (.int i) => k i
  | _ => False
theorem int_of {K : PySem.W.Frag} {w : Wd} {v : V} {x : DV} {k : Int → Prop} (r : RelDV K w v x) (h : asI x k) : ∃ i, v = .int i ∧ x = .val (.int i) ∧ k i := by
  cases x with
  | val d =>
    cases d with
    | int b => cases r; exact ⟨b, rfl, rfl, h⟩
    | none => exact h.elim
    | bool _ => exact h.elim
    | str _ => exact h.elim
    | list _ => exact h.elim
    | tuple _ => exact h.elim
    | dict _ => exact h.elim
  | ref i => exact h.elim
  | raw v _ => exact h.elim
  | no => exact h.elim
def dNoPart : DTO := fun _ M Q _ => Q none M
def dPart (t : DTE) : DTO := fun ρ M Q E => t ρ M (fun x M1 => asI x fun i => Q (some i) M1) E
theorem do_none : DO X W none dNoPart := PO.imp po_none fun σ H Q ⟨w, M, ρ, Q0, E0, s, h, k, x⟩ => k none M w H h (.refl w) s.m
theorem do_some (h : DE X W a ta) : DO X W (some a) (dPart ta) := PO.imp (po_some h) fun σ H Q ⟨w, M, ρ, Q0, E0, s, h, k, x⟩ =>
  ⟨w, M, ρ, _, E0, s, h, fun d1 M1 w1 v1 H1 h1 l1 s1 r1 => by
    obtain ⟨i, rfl, rfl, h2⟩ := int_of r1 h1
    exact ⟨i, rfl, k _ M1 w1 H1 h2 l1 s1⟩, x⟩
/-- xs[lo:hi] -/
def cutD {α : Type} (xs : List α) (lo hi : Option Int) : List α := (xs.drop (HT.sIx xs.length 0 lo)).take (HT.sIx xs.length xs.length hi - HT.sIx xs.length 0 lo)
def pSl (a : PyData) (lo hi : Option Int) (k : PyData → Prop) : Prop := match a with
  | .list ds => k (.list (cutD ds lo hi))
  | .tuple ds => k (.tuple (cutD ds lo hi))
  | _ => False
def dSl (t : DTE) (tl th : DTO) : DTE := fun ρ M Q E => t ρ M (fun x M1 => tl ρ M1 (fun lo M2 => th ρ M2 (fun hi M3 => vw M3 x fun a => pSl a lo hi fun d => Q (.val d) M3) E) E) E
theorem RpAll.cut {K : PySem.W.Frag} {S : Hp} {xs : List V} {ds : List PyData} (r : RpAll K S xs ds) (lo hi : Option Int) : RpAll K S (cutV xs lo hi) (cutD ds lo hi) := by
  unfold cutV cutD
  rw [RpAll.length r]
  exact RpAll.take _ (RpAll.drop _ r)
variable {tl th : DTO} {elo ehi : Option Expr} {p2 : Pos}
theorem cutD_whole {α : Type} {xs : List α} {lo hi : Option Int} (h : HT.sIx xs.length 0 lo = 0 ∧ HT.sIx xs.length xs.length hi = xs.length) : cutD xs lo hi = xs := by
  unfold cutD
  rw [h.1, h.2]
  simp
theorem de_sl (ha : DE X W a ta) (hl : DO X W elo tl) (hh : DO X W ehi th) : DE X W (.Subscript a (.Slice elo ehi none p2) pos) (dSl ta tl th) := PE.imp (pe_slice (sl_tupA.or sl_list) ha hl hh) fun σ H Q ⟨w, M, ρ, Q0, E0, s, h, k, x⟩ =>
  ⟨w, M, ρ, _, E0, s, h, fun d1 M1 w1 v1 H1 h1 l1 s1 r1 => ⟨w1, M1, ρ, _, E0, ⟨s1, s.s.mono l1⟩, h1, fun lo M2 w2 H2 h2 l2 s2 => ⟨w2, M2, ρ, _, E0, ⟨s2, s.s.mono (l1.trans l2)⟩, h2, fun hi M3 w3 H3 h3 l3 s3 => by
    obtain ⟨p, q1, h4⟩ := vw_elim s3 (RelDV.mono (l2.trans l3) r1) h3
    have k3 := ROk.of (M := M3) k (l1.trans (l2.trans l3))
    cases q1 <;> try exact h4.elim
    · rename_i e r
      exact .inr ⟨_, _, rfl, SqL.of e, k3.lst s3 (RpAll.cut r lo hi) h4⟩
    · rename_i e r
      refine .inl ⟨_, _, rfl, SqT.mono s3.sub e, fun z => ?_, fun _ => k3.tup s3 (RpAll.cut r lo hi) h4⟩
      refine k3.flat s3 (.tup e r) ?_
      have h4 : Q0 (.val (.tuple (cutD _ lo hi))) M3 := h4
      rw [cutD_whole (by rw [← RpAll.length r]; exact z)] at h4
      exact h4, x.le (l1.trans l2)⟩, x.le l1⟩, x⟩
end
end DL

set_option Elab.async false
set_option linter.all false
set_option maxRecDepth 100000
set_option maxHeartbeats 4000000
namespace DL
open PySem PySem.Spec PyProof.Rows L2

/-! ### calls of built-in functions over data -/
def dB (F : List PyData → (PyData → Prop) → Prop) (t : DTA) : DTE := fun ρ M Q E => t ρ M (fun xs M1 => vws M1 xs fun ds => F ds fun d => Q (.val d) M1) E
section
variable {X : Cx} {W : WX} {pos p : Pos} {x : Str} {e a b c : Expr} {es : List Expr} {t : DTA} {ta tb tc : DTE} {bid : String} {r : List V → Hp → VK → Prop} {F : List PyData → (PyData → Prop) → Prop}
theorem B_lift {K : PySem.W.Frag} (hd : Dn K r F) (σ : L2.St) (H : Hp) (Q : VK) (h : liftE K W (dB F t) σ H Q) : tCB r (liftA K W t) σ H Q := by
  obtain ⟨w, M, ρ, Q0, E0, s, h, k, x⟩ := h
  refine ⟨w, M, ρ, _, E0, s, h, fun d1 M1 w1 v1 H1 h1 l1 s1 r1 => ?_, x⟩
  obtain ⟨ds, e1, e2⟩ := vws_elim s1 r1 h1
  exact hd w1 M1 H1 v1 ds _ Q s1 e1 e2 (ROk.of k l1)
theorem de_b (hc : CallR X (.builtin bid) r) (hd : Dn X.K r F) (hv : bootBuiltins x = some (.builtin bid)) (hm : X.mg x = none) (ha : DA X W (e :: es) t) (hg : Gl X x := by rfl) (hn : x ≠ "__name__" := by decide) (hdb : (x == ("__debug__" : Str)) = false := by decide)
    (he : starEach (e :: es) X.env = (false, eval e X.env) :: starEach es X.env := by rfl) (hpl : (backTo pos (starEach es X.env)).any (·.1) = false := by rfl) : DE X W (.Call (.Name x p) (e :: es) [] pos) (dB F t) :=
  PE.imp (pe_callB hc hg hm hv ha hn hdb he hpl) fun σ H Q h => B_lift hd σ H Q h
theorem de_ty {T : String} (hc : CallR X (.type T) r) (hd : Dn X.K r F) (hv : bootBuiltins x = some (.type T)) (hm : X.mg x = none) (ha : DA X W (e :: es) t) (hg : Gl X x := by rfl) (hn : x ≠ "__name__" := by decide) (hdb : (x == ("__debug__" : Str)) = false := by decide)
    (he : starEach (e :: es) X.env = (false, eval e X.env) :: starEach es X.env := by rfl) (hpl : (backTo pos (starEach es X.env)).any (·.1) = false := by rfl) : DE X W (.Call (.Name x p) (e :: es) [] pos) (dB F t) :=
  PE.imp (pe_callTy hc hg hm hv ha hn hdb he hpl) fun σ H Q h => B_lift hd σ H Q h
/-- the same with a new mutable list as the value: F gives what it holds -/
def dBM (F : List PyData → (List PyData → Prop) → Prop) (t : DTA) : DTE := fun ρ M Q E => t ρ M (fun xs M1 => vws M1 xs fun ds => F ds fun d => Q (.ref M1.length) (M1 ++ [.lst d])) E
/-- r hands back a new list of data -/
def DnL (K : PySem.W.Frag) (r : List V → Hp → VK → Prop) (F : List PyData → (List PyData → Prop) → Prop) : Prop :=
  ∀ w M H vs ds (k : List PyData → Prop) Q, SatM K w M H → RvAll K w.S H vs ds → F ds k → (∀ xs es, k es → RpAll K w.S xs es → ∀ p, H p = none → Q (.ref p) (upd H p (.lst xs))) → r vs H Q
theorem BM_lift {K : PySem.W.Frag} {F : List PyData → (List PyData → Prop) → Prop} (hd : DnL K r F) (σ : L2.St) (H : Hp) (Q : VK) (h : liftE K W (dBM F t) σ H Q) : tCB r (liftA K W t) σ H Q := by
  obtain ⟨w, M, ρ, Q0, E0, s, h, k, x⟩ := h
  refine ⟨w, M, ρ, _, E0, s, h, fun d1 M1 w1 v1 H1 h1 l1 s1 r1 => ?_, x⟩
  obtain ⟨ds, e1, e2⟩ := vws_elim s1 r1 h1
  exact hd w1 M1 H1 v1 ds _ Q s1 e1 e2 fun xs es h2 r2 => k.new l1 s1 r2 h2
theorem DnL.dn {K : PySem.W.Frag} {F : List PyData → (List PyData → Prop) → Prop} (hd : DnL K r F) : Dn K r (fun ds k => F ds fun es => k (.list es)) := fun w M H vs ds k Q s ra f q =>
  hd w M H vs ds (fun es => k (.list es)) Q s ra f fun xs es h r => q.lst s r h
theorem de_tyM {T : String} {F : List PyData → (List PyData → Prop) → Prop} (hc : CallR X (.type T) r) (hd : DnL X.K r F) (hv : bootBuiltins x = some (.type T)) (hm : X.mg x = none) (ha : DA X W (e :: es) t) (hg : Gl X x := by rfl) (hn : x ≠ "__name__" := by decide) (hdb : (x == ("__debug__" : Str)) = false := by decide)
    (he : starEach (e :: es) X.env = (false, eval e X.env) :: starEach es X.env := by rfl) (hpl : (backTo pos (starEach es X.env)).any (·.1) = false := by rfl) : DE X W (.Call (.Name x p) (e :: es) [] pos) (dBM F t) :=
  PE.imp (pe_callTy hc hg hm hv ha hn hdb he hpl) fun σ H Q h => BM_lift hd σ H Q h

/-! the functions -/
def pLen : List PyData → (PyData → Prop) → Prop
  | [.list ds], k => ds.length ≤ sizeLine → k (.int ds.length)
  | [.tuple ds], k => ds.length ≤ sizeLine → k (.int ds.length)
  | [.str z], k => z.length ≤ sizeLine ∧ k (.int z.length)
  | _, _ => False
theorem rv1 {K : PySem.W.Frag} {S H : Hp} {vs : List V} {d : PyData} (r : RvAll K S H vs [d]) : ∃ v, vs = [v] ∧ Rv K S H v d := by
  cases r with
  | cons q r => cases r; exact ⟨_, rfl, q⟩
theorem rv2 {K : PySem.W.Frag} {S H : Hp} {vs : List V} {d e : PyData} (r : RvAll K S H vs [d, e]) : ∃ v u, vs = [v, u] ∧ Rv K S H v d ∧ Rv K S H u e := by
  cases r with
  | cons q r =>
    obtain ⟨u, rfl, q2⟩ := rv1 r
    exact ⟨_, _, rfl, q, q2⟩
theorem call_lenB {X : Cx} : CallR X (.builtin "len") (fun xs H Q => ∃ x n, xs = [x] ∧ LenV X.K x H n ∧ (n ≤ sizeLine → Q (.int n) H)) := by
  intro pins s σ H xs us Q I r h
  obtain ⟨x, n, e, l, q⟩ := h
  refine call_len pins s σ H xs us Q I r ⟨x, n, e, l, q ?_⟩
  cases x with
  | str y => obtain ⟨h1, h2⟩ : y.length ≤ sizeLine ∧ n = y.length := l; omega
  | byt y => obtain ⟨h1, h2⟩ : y.size ≤ sizeLine ∧ n = y.size := l; omega
  | ref p =>
    have e' : (∃ xs, SqL X.K H p xs ∧ n = xs.length) ∨ ∃ xs, SqT X.K H p xs ∧ n = xs.length := l
    rcases e' with ⟨xs, hx, e'⟩ | ⟨xs, hx, e'⟩
    · obtain ⟨_, _, _, hz⟩ := I.list hx; omega
    · obtain ⟨_, _, _, hz⟩ := I.tuple hx; omega
  | _ => exact (show False from l).elim
theorem dn_len {K : PySem.W.Frag} : Dn K (fun xs H Q => ∃ x n, xs = [x] ∧ LenV K x H n ∧ (n ≤ sizeLine → Q (.int n) H)) pLen := fun w M H vs ds k Q s ra f q => by
  match ds, f with
  | [.list ds], f =>
    obtain ⟨v, rfl, r⟩ := rv1 ra
    cases r with
    | lst h1 r1 => exact ⟨_, _, rfl, .inl ⟨_, SqL.of h1, rfl⟩, by rw [← RpAll.len r1]; exact fun hz => q.flat s (.int _) (f hz)⟩
  | [.tuple ds], f =>
    obtain ⟨v, rfl, r⟩ := rv1 ra
    cases r with
    | tup h1 r1 => exact ⟨_, _, rfl, .inr ⟨_, SqT.mono s.sub h1, rfl⟩, by rw [← RpAll.len r1]; exact fun hz => q.flat s (.int _) (f hz)⟩
  | [.str z], f =>
    obtain ⟨v, rfl, r⟩ := rv1 ra
    cases r with
    | str z => exact ⟨_, _, rfl, ⟨f.1, rfl⟩, fun _ => q.flat s (.int _) f.2⟩
theorem de_len (hm : X.mg "len" = none) (ha : DA X W (e :: es) t) (hg : Gl X "len" := by rfl) (he : starEach (e :: es) X.env = (false, eval e X.env) :: starEach es X.env := by rfl) (hpl : (backTo pos (starEach es X.env)).any (·.1) = false := by rfl) : DE X W (.Call (.Name "len" p) (e :: es) [] pos) (dB pLen t) := de_b call_lenB dn_len boot_len hm ha hg (by decide) (by decide) he hpl
/-- list(x), tuple(x) -/
def pItems : List PyData → (List PyData → Prop) → Prop
  | [.list ds], k => k ds
  | [.tuple ds], k => k ds
  | _, _ => False
theorem dn_listof {K : PySem.W.Frag} : DnL K (fun xs H Q => ∃ p ys, xs = [.ref p] ∧ (SqL K H p ys ∨ SqT K H p ys) ∧ ∀ l, H l = none → Q (.ref l) (upd H l (.lst ys))) pItems := fun w M H vs ds k Q s ra f q => by
  match ds, f with
  | [.list ds], f =>
    obtain ⟨v, rfl, r⟩ := rv1 ra
    cases r with
    | lst h1 r1 => exact ⟨_, _, rfl, .inl (SqL.of h1), q _ _ f r1⟩
  | [.tuple ds], f =>
    obtain ⟨v, rfl, r⟩ := rv1 ra
    cases r with
    | tup h1 r1 => exact ⟨_, _, rfl, .inr (SqT.mono s.sub h1), q _ _ f r1⟩
def pListOf (ds : List PyData) (k : PyData → Prop) : Prop := pItems ds fun es => k (.list es)
def pTupleOf (ds : List PyData) (k : PyData → Prop) : Prop := pItems ds fun es => k (.tuple es)
theorem dn_tupleof {K : PySem.W.Frag} : Dn K (fun xs H Q => ∃ p ys, xs = [.ref p] ∧ ((SqL K H p ys ∧ ∀ l, H l = none → Q (.ref l) (upd H l (.tup ys))) ∨ (SqT K H p ys ∧ Q (.ref p) H))) pTupleOf := fun w M H vs ds k Q s ra f q => by
  match ds, f with
  | [.list ds], f =>
    obtain ⟨v, rfl, r⟩ := rv1 ra
    cases r with
    | lst h1 r1 => exact ⟨_, _, rfl, .inl ⟨SqL.of h1, q.tup s r1 f⟩⟩
  | [.tuple ds], f =>
    obtain ⟨v, rfl, r⟩ := rv1 ra
    cases r with
    | tup h1 r1 => exact ⟨_, _, rfl, .inr ⟨SqT.mono s.sub h1, q.flat s (.tup h1 r1) f⟩⟩
theorem de_listOf (hm : X.mg "list" = none) (ha : DA X W (e :: es) t) (hg : Gl X "list" := by rfl) (he : starEach (e :: es) X.env = (false, eval e X.env) :: starEach es X.env := by rfl) (hpl : (backTo pos (starEach es X.env)).any (·.1) = false := by rfl) : DE X W (.Call (.Name "list" p) (e :: es) [] pos) (dB pListOf t) := de_ty call_list_of dn_listof.dn boot_list hm ha hg (by decide) (by decide) he hpl
theorem de_listOfM (hm : X.mg "list" = none) (ha : DA X W (e :: es) t) (hg : Gl X "list" := by rfl) (he : starEach (e :: es) X.env = (false, eval e X.env) :: starEach es X.env := by rfl) (hpl : (backTo pos (starEach es X.env)).any (·.1) = false := by rfl) : DE X W (.Call (.Name "list" p) (e :: es) [] pos) (dBM pItems t) := de_tyM call_list_of dn_listof boot_list hm ha hg (by decide) (by decide) he hpl
theorem de_tupleOf (hm : X.mg "tuple" = none) (ha : DA X W (e :: es) t) (hg : Gl X "tuple" := by rfl) (he : starEach (e :: es) X.env = (false, eval e X.env) :: starEach es X.env := by rfl) (hpl : (backTo pos (starEach es X.env)).any (·.1) = false := by rfl) : DE X W (.Call (.Name "tuple" p) (e :: es) [] pos) (dB pTupleOf t) := de_ty call_tuple_of dn_tupleof (by decide +kernel) hm ha hg (by decide) (by decide) he hpl
/-- all(bs), any(bs) -/
def boolsOf : List PyData → (List Bool → Prop) → Prop
  | [], k => k []
  | .bool b :: r, k => boolsOf r fun bs => k (b :: bs)
  | _ :: _, _ => False
theorem boolsOf_elim : ∀ {ds : List PyData} {k : List Bool → Prop}, boolsOf ds k → ∃ bs, ds = bs.map PyData.bool ∧ k bs
  | [], _, h => ⟨[], rfl, h⟩
  | .bool b :: r, _, h => by
    obtain ⟨bs, e, q⟩ := boolsOf_elim (ds := r) h
    exact ⟨b :: bs, by rw [e]; rfl, q⟩
  | .none :: _, _, h => h.elim
  | .int _ :: _, _, h => h.elim
  | .str _ :: _, _, h => h.elim
  | .list _ :: _, _, h => h.elim
  | .tuple _ :: _, _, h => h.elim
  | .dict _ :: _, _, h => h.elim
theorem RpAll.bools {K : PySem.W.Frag} {S : Hp} : ∀ {vs : List V} {bs : List Bool}, RpAll K S vs (bs.map PyData.bool) → vs = bs.map V.bl
  | _, [], .nil => rfl
  | _, b :: bs, .cons q r => by cases q; rw [RpAll.bools r]; rfl
def pAll : List PyData → (PyData → Prop) → Prop
  | [.list ds], k => boolsOf ds fun bs => k (.bool (bs.all id))
  | _, _ => False
def pAny : List PyData → (PyData → Prop) → Prop
  | [.list ds], k => boolsOf ds fun bs => k (.bool (bs.any id))
  | _, _ => False
theorem dn_all {K : PySem.W.Frag} : Dn K (rAll K) pAll := fun w M H vs ds k Q s ra f q => by
  match ds, f with
  | [.list ds], f =>
    obtain ⟨v, rfl, r⟩ := rv1 ra
    obtain ⟨bs, rfl, f2⟩ := boolsOf_elim f
    cases r with
    | lst h1 r1 =>
      cases RpAll.bools r1
      exact ⟨_, bs, rfl, SqL.of h1, q.flat s (.bl _) f2⟩
theorem dn_any {K : PySem.W.Frag} : Dn K (rAny K) pAny := fun w M H vs ds k Q s ra f q => by
  match ds, f with
  | [.list ds], f =>
    obtain ⟨v, rfl, r⟩ := rv1 ra
    obtain ⟨bs, rfl, f2⟩ := boolsOf_elim f
    cases r with
    | lst h1 r1 =>
      cases RpAll.bools r1
      exact ⟨_, bs, rfl, SqL.of h1, q.flat s (.bl _) f2⟩
theorem de_all (hc : X.calm = true) (hm : X.mg "all" = none) (ha : DA X W (e :: es) t) (hg : Gl X "all" := by rfl) (he : starEach (e :: es) X.env = (false, eval e X.env) :: starEach es X.env := by rfl) (hpl : (backTo pos (starEach es X.env)).any (·.1) = false := by rfl) : DE X W (.Call (.Name "all" p) (e :: es) [] pos) (dB pAll t) := de_b (cr_all hc) dn_all (by decide +kernel) hm ha hg (by decide) (by decide) he hpl
theorem de_any (hc : X.calm = true) (hm : X.mg "any" = none) (ha : DA X W (e :: es) t) (hg : Gl X "any" := by rfl) (he : starEach (e :: es) X.env = (false, eval e X.env) :: starEach es X.env := by rfl) (hpl : (backTo pos (starEach es X.env)).any (·.1) = false := by rfl) : DE X W (.Call (.Name "any" p) (e :: es) [] pos) (dB pAny t) := de_b (cr_any hc) dn_any (by decide +kernel) hm ha hg (by decide) (by decide) he hpl
/-- sum, max, min of a list of ints; max, min of two ints -/
def intsOf : List PyData → (List Int → Prop) → Prop
  | [], k => k []
  | .int b :: r, k => intsOf r fun bs => k (b :: bs)
  | _ :: _, _ => False
theorem intsOf_elim : ∀ {ds : List PyData} {k : List Int → Prop}, intsOf ds k → ∃ bs, ds = bs.map PyData.int ∧ k bs
  | [], _, h => ⟨[], rfl, h⟩
  | .int b :: r, _, h => by
    obtain ⟨bs, e, q⟩ := intsOf_elim (ds := r) h
    exact ⟨b :: bs, by rw [e]; rfl, q⟩
  | .none :: _, _, h => h.elim
  | .bool _ :: _, _, h => h.elim
  | .str _ :: _, _, h => h.elim
  | .list _ :: _, _, h => h.elim
  | .tuple _ :: _, _, h => h.elim
  | .dict _ :: _, _, h => h.elim
theorem intsOf_map (is : List Int) (k : List Int → Prop) : intsOf (is.map PyData.int) k = k is := by
  induction is generalizing k with
  | nil => rfl
  | cons a r ih => exact ih _
theorem boolsOf_map (is : List Bool) (k : List Bool → Prop) : boolsOf (is.map PyData.bool) k = k is := by
  induction is generalizing k with
  | nil => rfl
  | cons a r ih => exact ih _
theorem RpAll.ints {K : PySem.W.Frag} {S : Hp} : ∀ {vs : List V} {bs : List Int}, RpAll K S vs (bs.map PyData.int) → vs = bs.map V.int
  | _, [], .nil => rfl
  | _, b :: bs, .cons q r => by cases q; rw [RpAll.ints r]; rfl
theorem RpAll.of_ints {K : PySem.W.Frag} {S : Hp} : ∀ (bs : List Int), RpAll K S (bs.map V.int) (bs.map PyData.int)
  | [] => .nil
  | b :: bs => .cons (.int b) (RpAll.of_ints bs)
def maxI : List Int → Int
  | [] => 0
  | [a] => a
  | a :: b :: r => max a (maxI (b :: r))
def minI : List Int → Int
  | [] => 0
  | [a] => a
  | a :: b :: r => min a (minI (b :: r))
theorem maxI_mem : ∀ {l : List Int}, l ≠ [] → maxI l ∈ l ∧ ∀ y ∈ l, y ≤ maxI l
  | [], h => (h rfl).elim
  | [a], _ => by simp [maxI]
  | a :: b :: r, _ => by
    have ⟨h1, h2⟩ := maxI_mem (l := b :: r) (by simp)
    show max a (maxI (b :: r)) ∈ a :: b :: r ∧ ∀ y ∈ a :: b :: r, y ≤ max a (maxI (b :: r))
    refine ⟨?_, fun y hy => ?_⟩
    · by_cases c : a ≤ maxI (b :: r)
      · rw [Int.max_eq_right c]; exact List.mem_cons_of_mem _ h1
      · rw [Int.max_eq_left (by omega)]; exact List.mem_cons_self
    · rcases List.mem_cons.mp hy with e | hy
      · subst e; omega
      · have := h2 y hy; omega
theorem minI_mem : ∀ {l : List Int}, l ≠ [] → minI l ∈ l ∧ ∀ y ∈ l, minI l ≤ y
  | [], h => (h rfl).elim
  | [a], _ => by simp [minI]
  | a :: b :: r, _ => by
    have ⟨h1, h2⟩ := minI_mem (l := b :: r) (by simp)
    show min a (minI (b :: r)) ∈ a :: b :: r ∧ ∀ y ∈ a :: b :: r, min a (minI (b :: r)) ≤ y
    refine ⟨?_, fun y hy => ?_⟩
    · by_cases c : a ≤ minI (b :: r)
      · rw [Int.min_eq_left c]; exact List.mem_cons_self
      · rw [Int.min_eq_right (by omega)]; exact List.mem_cons_of_mem _ h1
    · rcases List.mem_cons.mp hy with e | hy
      · subst e; omega
      · have := h2 y hy; omega
def pSum : List PyData → (PyData → Prop) → Prop
  | [.list ds], k => intsOf ds fun bs => k (.int bs.sum)
  | _, _ => False
def pMax : List PyData → (PyData → Prop) → Prop
  | [.list ds], k => intsOf ds fun bs => bs ≠ [] ∧ k (.int (maxI bs))
  | [.int a, .int b], k => k (.int (max a b))
  | _, _ => False
def pMin : List PyData → (PyData → Prop) → Prop
  | [.list ds], k => intsOf ds fun bs => bs ≠ [] ∧ k (.int (minI bs))
  | [.int a, .int b], k => k (.int (min a b))
  | _, _ => False
theorem dn_sum {K : PySem.W.Frag} : Dn K (rSum K) pSum := fun w M H vs ds k Q s ra f q => by
  match ds, f with
  | [.list ds], f =>
    obtain ⟨v, rfl, r⟩ := rv1 ra
    obtain ⟨bs, rfl, f2⟩ := intsOf_elim f
    cases r with
    | lst h1 r1 =>
      cases RpAll.ints r1
      exact ⟨_, bs, rfl, SqL.of h1, q.flat s (.int _) f2⟩
abbrev rMaxA (K : PySem.W.Frag) : List V → Hp → VK → Prop := fun xs H Q => rMax K xs H Q ∨ ∃ i j, xs = [.int i, .int j] ∧ Q (.int (if j > i then j else i)) H
abbrev rMinA (K : PySem.W.Frag) : List V → Hp → VK → Prop := fun xs H Q => rMin K xs H Q ∨ ∃ i j, xs = [.int i, .int j] ∧ Q (.int (if j < i then j else i)) H
theorem dn_max {K : PySem.W.Frag} : Dn K (rMaxA K) pMax := fun w M H vs ds k Q s ra f q => by
  match ds, f with
  | [.list ds], f =>
    obtain ⟨v, rfl, r⟩ := rv1 ra
    obtain ⟨bs, rfl, f1, f2⟩ := intsOf_elim f
    cases r with
    | lst h1 r1 =>
      cases RpAll.ints r1
      refine .inl ⟨_, bs, rfl, SqL.of h1, by cases bs <;> simp_all, fun m hm hle => ?_⟩
      obtain ⟨z1, z2⟩ := maxI_mem f1
      have e : m = maxI bs := Int.le_antisymm (z2 m hm) (hle _ z1)
      rw [e]
      exact q.flat s (.int _) f2
  | [.int a, .int b], f =>
    obtain ⟨v, u, rfl, r, r'⟩ := rv2 ra
    cases r
    cases r'
    refine .inr ⟨a, b, rfl, ?_⟩
    have e : (if b > a then b else a) = max a b := by split <;> omega
    rw [e]
    exact q.flat s (.int _) f
theorem dn_min {K : PySem.W.Frag} : Dn K (rMinA K) pMin := fun w M H vs ds k Q s ra f q => by
  match ds, f with
  | [.list ds], f =>
    obtain ⟨v, rfl, r⟩ := rv1 ra
    obtain ⟨bs, rfl, f1, f2⟩ := intsOf_elim f
    cases r with
    | lst h1 r1 =>
      cases RpAll.ints r1
      refine .inl ⟨_, bs, rfl, SqL.of h1, by cases bs <;> simp_all, fun m hm hle => ?_⟩
      obtain ⟨z1, z2⟩ := minI_mem f1
      have e : m = minI bs := Int.le_antisymm (hle _ z1) (z2 m hm)
      rw [e]
      exact q.flat s (.int _) f2
  | [.int a, .int b], f =>
    obtain ⟨v, u, rfl, r, r'⟩ := rv2 ra
    cases r
    cases r'
    refine .inr ⟨a, b, rfl, ?_⟩
    have e : (if b < a then b else a) = min a b := by split <;> omega
    rw [e]
    exact q.flat s (.int _) f
theorem de_sum (hc : X.calm = true) (hm : X.mg "sum" = none) (ha : DA X W (e :: es) t) (hg : Gl X "sum" := by rfl) (he : starEach (e :: es) X.env = (false, eval e X.env) :: starEach es X.env := by rfl) (hpl : (backTo pos (starEach es X.env)).any (·.1) = false := by rfl) : DE X W (.Call (.Name "sum" p) (e :: es) [] pos) (dB pSum t) := de_b (cr_sum hc) dn_sum (by decide +kernel) hm ha hg (by decide) (by decide) he hpl
theorem de_max (hc : X.calm = true) (hm : X.mg "max" = none) (ha : DA X W (e :: es) t) (hg : Gl X "max" := by rfl) (he : starEach (e :: es) X.env = (false, eval e X.env) :: starEach es X.env := by rfl) (hpl : (backTo pos (starEach es X.env)).any (·.1) = false := by rfl) :
    DE X W (.Call (.Name "max" p) (e :: es) [] pos) (dB pMax t) := de_b ((cr_max hc).or (call_max2 hc)) dn_max (by decide +kernel) hm ha hg (by decide) (by decide) he hpl
theorem de_min (hc : X.calm = true) (hm : X.mg "min" = none) (ha : DA X W (e :: es) t) (hg : Gl X "min" := by rfl) (he : starEach (e :: es) X.env = (false, eval e X.env) :: starEach es X.env := by rfl) (hpl : (backTo pos (starEach es X.env)).any (·.1) = false := by rfl) :
    DE X W (.Call (.Name "min" p) (e :: es) [] pos) (dB pMin t) := de_b ((cr_min hc).or (call_min2 hc)) dn_min (by decide +kernel) hm ha hg (by decide) (by decide) he hpl
/-- int(x), abs(x) of an int -/
def pToInt : List PyData → (PyData → Prop) → Prop
  | [.int a], k => k (.int a)
  | [.bool b], k => k (.int (if b then 1 else 0))
  | _, _ => False
def pAbs : List PyData → (PyData → Prop) → Prop
  | [.int a], k => k (.int a.natAbs)
  | _, _ => False
theorem dn_int {K : PySem.W.Frag} : Dn K (fun xs H Q => (∃ i, xs = [.int i] ∧ Q (.int i) H) ∨ ∃ k, xs = [.bl k] ∧ Q (.int (if k then 1 else 0)) H) pToInt := fun w M H vs ds k Q s ra f q => by
  match ds, f with
  | [.int a], f =>
    obtain ⟨v, rfl, r⟩ := rv1 ra
    cases r
    exact .inl ⟨a, rfl, q.flat s (.int _) f⟩
  | [.bool a], f =>
    obtain ⟨v, rfl, r⟩ := rv1 ra
    cases r
    exact .inr ⟨a, rfl, q.flat s (.int _) f⟩
theorem dn_abs {K : PySem.W.Frag} : Dn K (fun xs H Q => ∃ i, xs = [.int i] ∧ Q (.int (if i < 0 then -i else i)) H) pAbs := fun w M H vs ds k Q s ra f q => by
  match ds, f with
  | [.int a], f =>
    obtain ⟨v, rfl, r⟩ := rv1 ra
    cases r
    refine ⟨a, rfl, ?_⟩
    have e : (if a < 0 then -a else a) = (a.natAbs : Int) := by split <;> omega
    rw [e]
    exact q.flat s (.int _) f
theorem de_toInt (hm : X.mg "int" = none) (ha : DA X W (e :: es) t) (hg : Gl X "int" := by rfl) (he : starEach (e :: es) X.env = (false, eval e X.env) :: starEach es X.env := by rfl) (hpl : (backTo pos (starEach es X.env)).any (·.1) = false := by rfl) : DE X W (.Call (.Name "int" p) (e :: es) [] pos) (dB pToInt t) := de_ty call_int1 dn_int boot_int hm ha hg (by decide) (by decide) he hpl
theorem de_abs (hm : X.mg "abs" = none) (ha : DA X W (e :: es) t) (hg : Gl X "abs" := by rfl) (he : starEach (e :: es) X.env = (false, eval e X.env) :: starEach es X.env := by rfl) (hpl : (backTo pos (starEach es X.env)).any (·.1) = false := by rfl) : DE X W (.Call (.Name "abs" p) (e :: es) [] pos) (dB pAbs t) := de_b call_abs dn_abs (by decide +kernel) hm ha hg (by decide) (by decide) he hpl

/-! ### isinstance of a built-in class -/
inductive BT where
  | int | bool | str | tuple | list
  deriving DecidableEq
inductive Tag where
  | none | bool | int | str | list | tuple
  deriving DecidableEq
def BT.nm : BT → String
  | .int => "int" | .bool => "bool" | .str => "str" | .tuple => "tuple" | .list => "list"
def Tag.nm : Tag → String
  | .none => "NoneType" | .bool => "bool" | .int => "int" | .str => "str" | .list => "list" | .tuple => "tuple"
def Tag.sub : Tag → BT → Bool
  | .int, .int => true | .bool, .int => true | .bool, .bool => true | .str, .str => true | .tuple, .tuple => true | .list, .list => true
  | _, _ => false
theorem kitB_sub (t : Tag) (b : BT) : kitB t.nm b.nm = some (t.sub b) := by cases t <;> cases b <;> decide +kernel
def isK (T : BT) (d : PyData) : Bool := match T, d with
  | .int, .int _ => true
  | .int, .bool _ => true
  | .bool, .bool _ => true
  | .str, .str _ => true
  | .tuple, .tuple _ => true
  | .list, .list _ => true
  | _, _ => false
def dIs (T : BT) (ta : DTE) : DTE := fun ρ M Q E => ta ρ M (fun x M1 => vw M1 x fun a => Q (.val (.bool (isK T a))) M1) E
theorem tyX_tup {K : PySem.W.Frag} {H : Hp} {a : Addr} {xs : List V} (h : SqT K H a xs) : TyX K H (.ref a) (.type "tuple") := by
  rcases h with (h | ⟨o, h⟩) | ⟨o, its, n, hk, hc, _⟩
  · exact .base (.tup h)
  · exact .fTuple h
  · exact .kTuple hk hc
theorem tyX_of {K : PySem.W.Frag} {S H : Hp} (h : ∀ a o, S a = some o → H a = some o) {v : V} {d : PyData} (r : Rv K S H v d) (T : BT) : ∃ t : Tag, TyX K H v (.type t.nm) ∧ t.sub T = isK T d := by
  cases r with
  | non => exact ⟨.none, .base .non, by cases T <;> rfl⟩
  | bl b => exact ⟨.bool, .base (.bl b), by cases T <;> rfl⟩
  | int i => exact ⟨.int, .base (.int i), by cases T <;> rfl⟩
  | str x => exact ⟨.str, .base (.str x), by cases T <;> rfl⟩
  | lst q r => exact ⟨.list, .base (.lst q), by cases T <;> rfl⟩
  | tup q r => exact ⟨.tuple, tyX_tup (SqT.mono h q), by cases T <;> rfl⟩
theorem de_is (T : BT) {y : Str} {py : Pos} (hv : bootBuiltins y = some (.type T.nm)) (hm : X.mg "isinstance" = none) (hmy : X.mg y = none) (ha : DE X W a ta) (hg : Gl X "isinstance" := by rfl) (hgy : Gl X y := by rfl) (hny : y ≠ "__name__" := by decide) (hdy : (y == ("__debug__" : Str)) = false := by decide)
    (he : starEach (a :: [.Name y py]) X.env = (false, eval a X.env) :: starEach [.Name y py] X.env := by rfl) (he2 : starEach [.Name y py] X.env = (false, eval (.Name y py) X.env) :: starEach [] X.env := by rfl) (hpl : (backTo pos (starEach [.Name y py] X.env)).any (·.1) = false := by rfl) :
    DE X W (.Call (.Name "isinstance" p) [a, .Name y py] [] pos) (dIs T ta) :=
  PE.imp (pe_callB call_isi hg hm (by decide +kernel) (pa_cons ha (pa_cons (pe_bltn (v := .ty T.nm) hgy hmy hv rfl hny hdy) pa_nil he2) he) (by decide) (by decide) he hpl) fun σ H Q ⟨w, M, ρ, Q0, E0, s, h, k, x⟩ => by
    refine ⟨w, M, ρ, _, E0, s, h, fun d1 M1 w1 v1 H1 h1 l1 s1 r1 => ?_, x⟩
    obtain ⟨d, e1, e2⟩ := vw_elim s1 r1 h1
    obtain ⟨t, q1, q2⟩ := tyX_of s1.sub e1 T
    refine ⟨v1, .ty T.nm, _, _, isK T d, rfl, .ty _, q1, kit_ty (by rw [← q2]; exact kitB_sub t T), k _ M1 w1 _ H1 e2 l1 s1 (Rp.bl _)⟩
end
end DL

set_option Elab.async false
set_option linter.all false
set_option maxRecDepth 100000
set_option maxHeartbeats 4000000
namespace DL
open PySem PySem.Spec PyProof.Rows L2

/-! ### own defs -/
abbrev DSp := List DV → Mem → DQ → DX → Prop
def XOkE (K : PySem.W.Frag) (w : Wd) (E0 : DX) (E : XK) : Prop := ∀ x M' w' H' cls d, E0 x M' → w.Le w' → SatM K w' M' H' → XRel K w' H' cls d x → E cls d H'
/-- a promise over data, as the hand layer's -/
def liftSp (K : PySem.W.Frag) (W : DSp) : Sp := fun vs H Q E => ∃ w M args Q0 E0, SatM K w M H ∧ DvAll K w vs args ∧ W args M Q0 E0 ∧ KOk K w Q0 Q ∧ XOkE K w E0 E
/-- the def x stands and keeps the promise W -/
def DFn (P : Program) (wd : World) (K : PySem.W.Frag) (mg : Str → Option Value) (base : Heap) (x : Str) (k : Nat) (W : DSp) : Prop :=
  ∃ f fd ps, mg x = some (.ref f) ∧ PySem.W.keepIn K (.ref f) = true ∧ Binds K fd ps [] ∧ FnOk P wd K mg base (L2.CX P wd) k f fd ps (liftSp K W)
section
variable {P : Program} {wd : World} {K : PySem.W.Frag} {mg : Str → Option Value} {base : Heap}
theorem DFn.imp {x : Str} {k : Nat} {W W' : DSp} (h : DFn P wd K mg base x k W) (i : ∀ a M Q E, W' a M Q E → W a M Q E) : DFn P wd K mg base x k W' := by
  obtain ⟨f, fd, ps, h1, h2, h3, h4⟩ := h
  exact ⟨f, fd, ps, h1, h2, h3, h4.imp fun vs H Q E ⟨w, M, args, Q0, E0, q1, q2, q3, q4, q5⟩ => ⟨w, M, args, Q0, E0, q1, q2, i _ _ _ _ q3, q4, q5⟩⟩
theorem DFn.mono {x : Str} {j k : Nat} {W : DSp} (h : DFn P wd K mg base x j W) (i : j ≤ k) : DFn P wd K mg base x k W := by
  obtain ⟨f, fd, ps, h1, h2, h3, h4⟩ := h
  exact ⟨f, fd, ps, h1, h2, h3, h4.mono i⟩
/-- slots at the entry -/
theorem SlAll.nos {w : Wd} : ∀ n : Nat, SlAll K w (List.replicate n none) (List.replicate n .no)
  | 0 => .nil
  | n + 1 => .cons trivial (SlAll.nos n)
theorem SlAll.start {w : Wd} {n : Nat} : ∀ {vs : List V} {ds : List DV}, DvAll K w vs ds → SlAll K w (vs.map some ++ List.replicate n none) (ds ++ List.replicate n .no)
  | _, _, .nil => SlAll.nos n
  | _, _, .cons q r => .cons (SlotOk.of q) (SlAll.start r)
/-- is the value spoken of when only n objects are? -/
def DV.within (n : Nat) : DV → Prop
  | .ref i => i < n
  | _ => True
theorem RelDV.trim {w : Wd} {n : Nat} {v : V} : ∀ {d : DV}, RelDV K w v d → d.within n → RelDV K ⟨w.S, w.ad.take n, w.hd⟩ v d
  | .val _, r, _ => r
  | .ref i, ⟨a, r, e, q⟩, h => ⟨a, r, by show (w.ad.take n)[i]? = _; rw [List.getElem?_take_of_lt h]; exact e, q⟩
  | .raw _ _, r, _ => r
  | .no, r, _ => r
/-- a body's reading as a promise: np parameters, nl other slots; what the body made and let go is not spoken of behind it -/
def fnD (np nl : Nat) (t : DTS) : DSp := fun args M Q E => args.length = np ∧
  t { nx := fun _ M' => Q (.val .none) (M'.take M.length), rt := fun r M' => r.within M.length ∧ Q r (M'.take M.length), ex := fun x _ M' => E x (M'.take M.length) } (args ++ List.replicate nl .no) M
/-- .. where what it hands back may be new and mutable -/
def fnN (np nl : Nat) (t : DTS) : DSp := fun args M Q E => args.length = np ∧
  t { nx := fun _ M' => Q (.val .none) M', rt := Q, ex := fun x _ M' => E x M' } (args ++ List.replicate nl .no) M
theorem XRel.trim {w : Wd} {n : Nat} {H : Hp} {cls : Value} {d : Option Addr} {x : XD} (r : XRel K w H cls d x) : XRel K ⟨w.S, w.ad.take n, w.hd⟩ H cls d x := by
  cases x with
  | own C fs => exact r
  | bare c => exact r
theorem len_of {vs : List V} {args : List DV} {w : Wd} {n : Nat} (r : DvAll K w vs args) (h : args.length = n) : vs.length = n := by rw [DvAll.length r]; exact h
theorem fnD_ok {x qual : Str} {st : Stmt} {f : Addr} {fd : FuncData} {N ps : List Str} {k : Nat} {t : DTS} (F : Fun K x qual st f fd) (S : FnScope N ps (defScope st))
    (hb : ∀ (cdv : Value) (A : Around) (outer : List Env) (s : Shared) (H : Hp) (E : XK), Room k (A.deeper (envOfC qual (defScope st) s.heap.objs.size f cdv)) →
      DSs (cxOf (L2.CX P wd) P wd K mg base N qual (defScope st) f cdv A outer s H E) (fun cls d _ H => E cls d H) (defBody st) t) :
    FnOk P wd K mg base (L2.CX P wd) (k + 1) f fd ps (liftSp K (fnD ps.length (N.length - ps.length) t)) := by
  refine F.okX S (fun vs H Q E ⟨w, M, args, Q0, E0, _, r, h, _⟩ => len_of r h.1) fun cdv A outer s H vs Q E hr ⟨w, M, args, Q0, E0, sm, r, ⟨hl, h⟩, k, xo⟩ => ⟨_, hb cdv A outer s H E hr, ?_⟩
  have el : N.length - vs.length = N.length - ps.length := by rw [len_of r hl]
  have tr : ∀ {w' : Wd}, w.Le w' → w.Le ⟨w'.S, w'.ad.take M.length, w'.hd⟩ := fun {w'} l => by rw [← sm.len]; exact l.trim
  refine ⟨w, M, _, _, ⟨sm, by unfold L2.start; rw [el]; exact SlAll.start r⟩, h, ?_⟩
  refine ⟨fun ρ' M' w' σ' H' q l s' => ?_, fun r' M' w' v H' q l s' rv => ?_, fun _ _ _ _ _ q _ _ => q.elim, fun _ _ _ _ _ q _ _ => q.elim, fun y ρ' M' w' σ' H' cls d q l s' rx => ?_⟩
  · exact k _ _ _ _ _ q (tr l) (s'.m.trim _) Rp.non
  · exact k _ _ _ _ _ q.2 (tr l) (s'.trim _) (rv.trim q.1)
  · exact xo _ _ _ _ _ _ q (tr l) (s'.m.trim _) rx.trim
theorem fnN_ok {x qual : Str} {st : Stmt} {f : Addr} {fd : FuncData} {N ps : List Str} {k : Nat} {t : DTS} (F : Fun K x qual st f fd) (S : FnScope N ps (defScope st))
    (hb : ∀ (cdv : Value) (A : Around) (outer : List Env) (s : Shared) (H : Hp) (E : XK), Room k (A.deeper (envOfC qual (defScope st) s.heap.objs.size f cdv)) →
      DSs (cxOf (L2.CX P wd) P wd K mg base N qual (defScope st) f cdv A outer s H E) (fun cls d _ H => E cls d H) (defBody st) t) :
    FnOk P wd K mg base (L2.CX P wd) (k + 1) f fd ps (liftSp K (fnN ps.length (N.length - ps.length) t)) := by
  refine F.okX S (fun vs H Q E ⟨w, M, args, Q0, E0, _, r, h, _⟩ => len_of r h.1) fun cdv A outer s H vs Q E hr ⟨w, M, args, Q0, E0, sm, r, ⟨hl, h⟩, k, xo⟩ => ⟨_, hb cdv A outer s H E hr, ?_⟩
  have el : N.length - vs.length = N.length - ps.length := by rw [len_of r hl]
  refine ⟨w, M, _, _, ⟨sm, by unfold L2.start; rw [el]; exact SlAll.start r⟩, h, ?_⟩
  refine ⟨fun ρ' M' w' σ' H' q l s' => ?_, fun r' M' w' v H' q l s' rv => ?_, fun _ _ _ _ _ q _ _ => q.elim, fun _ _ _ _ _ q _ _ => q.elim, fun y ρ' M' w' σ' H' cls d q l s' rx => ?_⟩
  · exact k _ _ _ _ _ q l s'.m Rp.non
  · exact k _ _ _ _ _ q l s' rv
  · exact xo _ _ _ _ _ _ q l s'.m rx
end
section
variable {X : Cx} {W : WX} {pos p : Pos} {x : Str} {e : Expr} {es : List Expr} {t : DTA} {Wf : DSp} {j k n : Nat}
/-! ### statements -/
def dNext : DTS := fun D ρ M => D.nx ρ M
def dSeq (t u : DTS) : DTS := fun D ρ M => t { D with nx := u D } ρ M
variable {st : Stmt} {rest : List Stmt} {ts us : DTS} {te : DTE}
theorem ds_nil : DSs X W [] dNext := PSs.imp pss_nil fun D σ H ⟨w, M, ρ, D0, s, h, k⟩ => k.nx ρ M w σ H h (.refl w) s
theorem ds_cons (h1 : DS X W st ts) (h2 : DSs X W rest us) : DSs X W (st :: rest) (dSeq ts us) := PSs.imp (pss_cons h1 h2) fun D σ H ⟨w, M, ρ, D0, s, h, k⟩ =>
  ⟨w, M, ρ, _, s, h, ⟨fun ρ' M' w' σ' H' q l s' => ⟨w', M', ρ', D0, s', q, k.le l⟩, k.rt, k.bk, k.ct, k.ex⟩⟩
theorem ds_one (h1 : DS X W st ts) : DSs X W [st] ts := pss_one h1
theorem ds_pass : DS X W (.Pass pos) dNext := PS.imp ps_pass fun D σ H ⟨w, M, ρ, D0, s, h, k⟩ => k.nx ρ M w σ H h (.refl w) s
def dBreak : DTS := fun D ρ M => D.bk ρ M
def dCont : DTS := fun D ρ M => D.ct ρ M
theorem ds_break : DS X W (.Break pos) dBreak := PS.imp ps_break fun D σ H ⟨w, M, ρ, D0, s, h, k⟩ => k.bk ρ M w σ H h (.refl w) s
theorem ds_continue : DS X W (.Continue pos) dCont := PS.imp ps_continue fun D σ H ⟨w, M, ρ, D0, s, h, k⟩ => k.ct ρ M w σ H h (.refl w) s
def dDrop (te : DTE) : DTS := fun D ρ M => te ρ M (fun _ M1 => D.nx ρ M1) fun x M1 => D.ex x ρ M1
theorem ds_expr (he : DE X W e te) (hs : swapsWith e none pos.line X.env = pure false := by rfl) : DS X W (.Expr e pos) (dDrop te) := PS.imp (ps_expr he hs) fun D σ H ⟨w, M, ρ, D0, s, h, k⟩ =>
  ⟨w, M, ρ, _, _, s, h, fun d1 M1 w1 v1 H1 h1 l1 s1 r1 => k.nx ρ M1 w1 σ H1 h1 l1 ⟨s1, s.s.mono l1⟩, k.xok s.s⟩
def dRet (te : DTE) : DTS := fun D ρ M => te ρ M D.rt fun x M1 => D.ex x ρ M1
theorem ds_ret (he : DE X W e te) : DS X W (.Return (some e) pos) (dRet te) := PS.imp (ps_ret he) fun D σ H ⟨w, M, ρ, D0, s, h, k⟩ => ⟨w, M, ρ, _, _, s, h, k.rt, k.xok s.s⟩
def dRetN : DTS := fun D _ M => D.rt (.val .none) M
theorem ds_retN : DS X W (.Return none pos) dRetN := PS.imp ps_retN fun D σ H ⟨w, M, ρ, D0, s, h, k⟩ => k.rt _ M w _ H h (.refl w) s.m Rp.non
def dIfS (c : DTT) (t u : DTS) : DTS := fun D ρ M => c ρ M (fun b M1 => if b = true then t D ρ M1 else u D ρ M1) fun x M1 => D.ex x ρ M1
theorem ds_if {c : Expr} {a b : List Stmt} {tc : DTT} (hc : DT X W c tc) (ha : DSs X W a ts) (hb : DSs X W b us) : DS X W (.If c a b pos) (dIfS tc ts us) := PS.imp (ps_if hc ha hb) fun D σ H ⟨w, M, ρ, D0, s, h, k⟩ =>
  ⟨w, M, ρ, _, _, s, h, fun b M1 w1 H1 h1 l1 s1 => by
    cases b with
    | true => exact ⟨w1, M1, ρ, D0, ⟨s1, s.s.mono l1⟩, h1, k.le l1⟩
    | false => exact ⟨w1, M1, ρ, D0, ⟨s1, s.s.mono l1⟩, h1, k.le l1⟩, k.xok s.s⟩
/-! ### targets -/
abbrev DTG := DV → Sl → Mem → (Sl → Mem → Prop) → Prop
abbrev DTGs := List PyData → Sl → Mem → (Sl → Mem → Prop) → Prop
def GOk (K : PySem.W.Frag) (w : Wd) (Q0 : Sl → Mem → Prop) (Q : L2.St → Hp → Prop) : Prop := ∀ ρ' M' w' σ' H', Q0 ρ' M' → w.Le w' → Sat K w' M' ρ' σ' H' → Q σ' H'
theorem GOk.le {K : PySem.W.Frag} {w w1 : Wd} {Q0 : Sl → Mem → Prop} {Q : L2.St → Hp → Prop} (h : GOk K w Q0 Q) (l : w.Le w1) : GOk K w1 Q0 Q := fun ρ' M' w' σ' H' q l' => h ρ' M' w' σ' H' q (l.trans l')
def liftG (K : PySem.W.Frag) (t : DTG) : TG := fun v σ H Q => ∃ w M ρ x Q0, Sat K w M ρ σ H ∧ RelDV K w v x ∧ t x ρ M Q0 ∧ GOk K w Q0 Q
def liftGs (K : PySem.W.Frag) (t : DTGs) : TGs := fun vs σ H Q => ∃ w M ρ xs Q0, Sat K w M ρ σ H ∧ RpAll K w.S vs xs ∧ t xs ρ M Q0 ∧ GOk K w Q0 Q
def DG (X : Cx) (e : Expr) (t : DTG) : Prop := PG X e (liftG X.K t)
def DGs (X : Cx) (e : List Expr) (t : DTGs) : Prop := PGs X e (liftGs X.K t)
theorem PG.imp {e : Expr} {t t' : TG} (h : PG X e t) (i : ∀ v σ H Q, t' v σ H Q → t v σ H Q) : PG X e t' := ⟨fun pins s σ H v u Q I r q => h.run pins s σ H v u Q I r (i _ _ _ _ q)⟩
theorem PGs.imp {e : List Expr} {t t' : TGs} (h : PGs X e t) (i : ∀ v σ H Q, t' v σ H Q → t v σ H Q) : PGs X e t' := ⟨fun pins s σ H v u Q I r q => h.run pins s σ H v u Q I r (i _ _ _ _ q)⟩
def gN (i : Nat) : DTG := fun x ρ M Q => Q (put ρ i x) M
theorem dg_name (i : Nat) (hN : X.N.Nodup) (hi : X.N[i]? = some x := by rfl) (hx : Loc X.env.scope x := by first | exact .inl rfl | exact .inr rfl) (hf : X.fn x = true ∨ X.env.scope.names.lookup x = some .local := by first | exact .inl rfl | exact .inr rfl | assumption) : DG X (.Name x pos) (gN i) :=
  PG.imp (pg_name hN hi hx hf) fun v σ H Q ⟨w, M, ρ, y, Q0, s, r, h, k⟩ => k _ M w _ H h (.refl w) ⟨s.m, SlAll.put (SlotOk.of r) i s.s⟩
def gs0 : DTGs := fun xs ρ M Q => xs = [] ∧ Q ρ M
def gsC (t : DTG) (u : DTGs) : DTGs := fun xs ρ M Q => ∃ d r, xs = d :: r ∧ t (.val d) ρ M fun ρ' M' => u r ρ' M' Q
theorem dgs_nil : DGs X [] gs0 := PGs.imp pgs_nil fun v σ H Q ⟨w, M, ρ, y, Q0, s, r, ⟨e, h⟩, k⟩ => by
  subst e
  cases r
  exact ⟨rfl, k _ M w _ H h (.refl w) s⟩
variable {tg : DTG} {tgs : DTGs}
theorem dgs_cons (h1 : DG X e tg) (h2 : DGs X es tgs) (hs : (assignEach (e :: es) X.env).map (·.2) = assign e X.env :: (assignEach es X.env).map (·.2) := by rfl) : DGs X (e :: es) (gsC tg tgs) :=
  PGs.imp (pgs_cons h1 h2 hs) fun v σ H Q ⟨w, M, ρ, y, Q0, s, r, ⟨d, t, e, h⟩, k⟩ => by
    subst e
    cases r with
    | cons q r =>
      exact ⟨_, _, rfl, w, M, ρ, .val d, _, s, q, h, fun ρ' M' w' σ' H' q' l s' => ⟨w', M', ρ', t, Q0, s', RpAll.mono l.s r, q', k.le l⟩⟩
/-- (a, b, ..) = a tuple of so many -/
def gT (n : Nat) (t : DTGs) : DTG := fun x ρ M Q => match x with
  | .val (.tuple ds) => ds.length = n ∧ t ds ρ M Q
  | _ => False
theorem gT_elim {n : Nat} {t : DTGs} {x : DV} {ρ : Sl} {M : Mem} {Q : Sl → Mem → Prop} (h : gT n t x ρ M Q) : ∃ ds, x = .val (.tuple ds) ∧ ds.length = n ∧ t ds ρ M Q := by
  cases x with
  | val d =>
    cases d with
    | tuple ds => exact ⟨ds, rfl, h⟩
    | none => exact h.elim
    | bool _ => exact h.elim
    | int _ => exact h.elim
    | str _ => exact h.elim
    | list _ => exact h.elim
    | dict _ => exact h.elim
  | ref i => exact h.elim
  | raw v _ => exact h.elim
  | no => exact h.elim
theorem dg_tup (hc : X.calm = true) (h : DGs X es tgs) (hn : (assignEach es X.env).length = n := by rfl) (hst : (assignEach es X.env).findIdx? (·.1) = none := by rfl) : DG X (.Tuple es j pos) (gT n tgs) :=
  PG.imp (pg_tup hc h hn hst) fun v σ H Q ⟨w, M, ρ, y, Q0, s, r, h, k⟩ => by
    obtain ⟨ds, rfl, e, h2⟩ := gT_elim h
    cases r with
    | tup q r => exact ⟨_, _, rfl, SqT.mono s.m.sub q, by rw [← e]; exact RpAll.length r, w, M, ρ, ds, Q0, s, r, h2, k⟩
def dAsg (te : DTE) (g : DTG) : DTS := fun D ρ M => te ρ M (fun x M1 => g x ρ M1 D.nx) fun x M1 => D.ex x ρ M1
theorem ds_set (i : Nat) {px : Pos} (hN : X.N.Nodup) (he : DE X W e te) (hi : X.N[i]? = some x := by rfl) (hx : Loc X.env.scope x := by first | exact .inl rfl | exact .inr rfl) (hs : swapsWith e (some (.Name x px)) pos.line X.env = pure false := by rfl)
    (hf : X.fn x = true ∨ X.env.scope.names.lookup x = some .local := by first | exact .inl rfl | exact .inr rfl | assumption) : DS X W (.Assign [.Name x px] e pos) (dAsg te (gN i)) :=
  PS.imp (ps_set hN hi hx he hs hf) fun D σ H ⟨w, M, ρ, D0, s, h, k⟩ =>
    ⟨w, M, ρ, _, _, s, h, fun d1 M1 w1 v1 H1 h1 l1 s1 r1 => k.nx _ M1 w1 _ H1 h1 l1 ⟨s1, SlAll.put (SlotOk.of r1) i (s.s.mono l1)⟩, k.xok s.s⟩
variable {target : Expr}
theorem ds_asg (he : DE X W e te) (hg : DG X target tg) (hs : swapsWithSole [target] e pos.line X.env = pure false := by rfl) (hw : swappedStores [target] e X.env = pure none := by rfl)
    (h1 : (assignEach [target] X.env).map (·.2) = [assign target X.env] := by rfl) : DS X W (.Assign [target] e pos) (dAsg te tg) :=
  PS.imp (ps_asg he hg hs hw h1) fun D σ H ⟨w, M, ρ, D0, s, h, k⟩ =>
    ⟨w, M, ρ, _, _, s, h, fun d1 M1 w1 v1 H1 h1 l1 s1 r1 => ⟨w1, M1, ρ, d1, _, ⟨s1, s.s.mono l1⟩, r1, h1, fun ρ' M' w' σ' H' q l s' => k.nx ρ' M' w' σ' H' q (l1.trans l) s'⟩, k.xok s.s⟩
/-- a, b = x, y -/
def dPar (i j : Nat) (t : DTA) : DTS := fun D ρ M => t ρ M (fun vs M1 => match vs with
  | [v, u] => D.nx (put (put ρ i v) j u) M1
  | _ => False) fun x M1 => D.ex x ρ M1
theorem ds_par (i j : Nat) {a b : Expr} {y : Str} {px py pt : Pos} {kt k2 : Nat} {pt2 : Pos} (hc : X.calm = true) (hN : X.N.Nodup) (ha : DA X W [a, b] t) (hi : X.N[i]? = some x := by rfl) (hj : X.N[j]? = some y := by rfl) (hij : i ≠ j := by decide)
    (hx : X.env.scope.names.lookup x = some .local := by rfl) (hy : X.env.scope.names.lookup y = some .local := by rfl)
    (hw : swappedStores [.Tuple [.Name x px, .Name y py] kt pt] (.Tuple [a, b] k2 pt2) X.env = pure (some [x, y]) := by rfl)
    (hs : swapsWithSole [.Tuple [.Name x px, .Name y py] kt pt] (.Tuple [a, b] k2 pt2) pos.line X.env = pure false := by rfl) :
    DS X W (.Assign [.Tuple [.Name x px, .Name y py] kt pt] (.Tuple [a, b] k2 pt2) pos) (dPar i j t) :=
  PS.imp (ps_par hc hN hi hj hij hx hy ha hw hs) fun D σ H ⟨w, M, ρ, D0, s, h, k⟩ =>
    ⟨w, M, ρ, _, _, s, h, fun d1 M1 w1 v1 H1 h1 l1 s1 r1 => by
      cases r1 with
      | nil => exact h1.elim
      | cons q r => cases r with
        | nil => exact h1.elim
        | cons q2 r => cases r with
          | nil => exact ⟨_, _, rfl, k.nx _ M1 w1 _ H1 h1 l1 ⟨s1, SlAll.put (SlotOk.of q2) _ (SlAll.put (SlotOk.of q) _ (s.s.mono l1))⟩⟩
          | cons q3 r => exact h1.elim, k.xok s.s⟩
/-- x op= e, ints and the like -/
def dAug (F : PyData → PyData → (PyData → Prop) → Prop) (i : Nat) (te : DTE) : DTS := fun D ρ M => (slot ρ i).is = true ∧ te ρ M (fun y M1 => vw M1 (slot ρ i) fun a => vw M1 y fun b => F a b fun d => D.nx (put ρ i (.val d)) M1) fun x M1 => D.ex x ρ M1
theorem ds_aug (i : Nat) {op : Operator} {r : R2} {F : PyData → PyData → (PyData → Prop) → Prop} {px : Pos} (hN : X.N.Nodup) (he : DE X W e te) (ho : OpR X (inplaceOp op) r) (hd : D2 X.K r F) (hi : X.N[i]? = some x := by rfl) (hx : Loc X.env.scope x := by first | exact .inl rfl | exact .inr rfl)
    (hf : X.fn x = true ∨ X.env.scope.names.lookup x = some .local := by first | exact .inl rfl | exact .inr rfl | assumption) : DS X W (.AugAssign (.Name x px) op e pos) (dAug F i te) := by
  refine PS.imp (ps_aug (ti := fun x y H Q => r x y H Q) hN hi hx he ho hf) fun D σ H ⟨w, M, ρ, D0, s, ⟨h0, h⟩, k⟩ => ?_
  have ne : slot ρ i ≠ .no := fun z => by rw [z] at h0; cases h0
  obtain ⟨v, e, rv⟩ := s.s.get ne
  refine ⟨v, e, w, M, ρ, _, _, s, h, fun d1 M1 w1 v1 H1 h1 l1 s1 r1 => ?_, k.xok s.s⟩
  obtain ⟨a, q1, h2⟩ := vw_elim s1 (RelDV.mono l1 rv) h1
  obtain ⟨b, q2, h3⟩ := vw_elim s1 r1 h2
  exact hd w1 M1 H1 v v1 a b _ _ s1 q1 q2 h3 fun d w' v' H' h4 l' s' r' => k.nx _ M1 w' _ H' h4 (l1.trans l') ⟨s', SlAll.put (SlotOk.of (d := .val d) r') i (s.s.mono (l1.trans l'))⟩
end
end DL

set_option Elab.async false
set_option linter.all false
set_option maxRecDepth 100000
set_option maxHeartbeats 4000000
namespace DL
open PySem PySem.Spec PyProof.Rows L2

/-! ### a call that sees the objects alone that it is handed -/
/-- the numbers of the objects among the arguments, each once -/
def refsOf : List DV → List Nat
  | [] => []
  | .ref i :: r => if (refsOf r).contains i then refsOf r else i :: refsOf r
  | _ :: r => refsOf r
def ixOf : List Nat → Nat → Nat
  | [], _ => 0
  | a :: r, i => if a == i then 0 else ixOf r i + 1
/-- an argument as the callee sees it -/
def inn (is : List Nat) : DV → DV
  | .ref i => .ref (ixOf is i)
  | d => d
/-- its answer as the caller sees it; len: how many objects the caller has -/
def outn (is : List Nat) (len : Nat) : DV → DV
  | .ref k => if k < is.length then .ref (is.getD k 0) else .ref (len + (k - is.length))
  | d => d
def wb : Mem → List Nat → Mem → Mem
  | M, i :: is, m :: ms => wb (mput M i m) is ms
  | M, _, _ => M
def back (M : Mem) (is : List Nat) (M' : Mem) : Mem := wb M is M' ++ M'.drop is.length
theorem wb_length : ∀ (is : List Nat) (M M' : Mem), (wb M is M').length = M.length
  | [], M, M' => by cases M' <;> rfl
  | i :: is, M, [] => rfl
  | i :: is, M, m :: ms => by unfold wb; rw [wb_length is, mput_length]
theorem wb_out : ∀ {is : List Nat} {M M' : Mem} {j : Nat}, j ∉ is → mem (wb M is M') j = mem M j
  | [], M, M', _, _ => by cases M' <;> rfl
  | i :: is, M, [], _, _ => rfl
  | i :: is, M, m :: ms, j, h => by
    unfold wb
    rw [wb_out (fun z => h (List.mem_cons_of_mem _ z)), mem_mput_ne (fun z => h (by rw [z]; exact List.mem_cons_self))]
theorem wb_in : ∀ {is : List Nat} {M M' : Mem} {j k : Nat}, is.Nodup → (∀ i ∈ is, i < M.length) → is.length ≤ M'.length → is[k]? = some j → mem (wb M is M') j = mem M' k
  | [], _, _, _, _, _, _, _, e => by simp at e
  | i :: is, M, [], _, _, _, _, hl, _ => by simp at hl
  | i :: is, M, m :: ms, j, k, nd, hi, hl, e => by
    obtain ⟨n1, n2⟩ := List.nodup_cons.mp nd
    unfold wb
    cases k with
    | zero =>
      have e : i = j := by simpa using e
      subst e
      rw [wb_out n1, mem_mput_same (hi i List.mem_cons_self)]
      rfl
    | succ k =>
      exact wb_in (k := k) n2 (fun i' h' => by rw [mput_length]; exact hi i' (List.mem_cons_of_mem _ h')) (by simpa using hl) (by simpa using e)
theorem refsOf_nodup : ∀ vs : List DV, (refsOf vs).Nodup
  | [] => List.nodup_nil
  | .ref i :: r => by
    unfold refsOf
    split
    · exact refsOf_nodup r
    · rename_i h
      exact List.nodup_cons.mpr ⟨fun z => h (by simpa using z), refsOf_nodup r⟩
  | .val _ :: r => refsOf_nodup r
  | .raw _ _ :: r => refsOf_nodup r
  | .no :: r => refsOf_nodup r
theorem refsOf_mem : ∀ {vs : List DV} {i : Nat}, .ref i ∈ vs → i ∈ refsOf vs
  | .ref j :: r, i, h => by
    unfold refsOf
    rcases List.mem_cons.mp h with e | h
    · cases e
      split
      · rename_i h; simpa using h
      · exact List.mem_cons_self
    · have := refsOf_mem h
      split
      · exact this
      · exact List.mem_cons_of_mem _ this
  | .val _ :: r, i, h => refsOf_mem (vs := r) (by rcases List.mem_cons.mp h with e | h; cases e; exact h)
  | .raw _ _ :: r, i, h => refsOf_mem (vs := r) (by rcases List.mem_cons.mp h with e | h; cases e; exact h)
  | .no :: r, i, h => refsOf_mem (vs := r) (by rcases List.mem_cons.mp h with e | h; cases e; exact h)
theorem of_refsOf : ∀ {vs : List DV} {i : Nat}, i ∈ refsOf vs → .ref i ∈ vs
  | .ref j :: r, i, h => by
    unfold refsOf at h
    split at h
    · exact List.mem_cons_of_mem _ (of_refsOf h)
    · rcases List.mem_cons.mp h with e | h
      · subst e; exact List.mem_cons_self
      · exact List.mem_cons_of_mem _ (of_refsOf h)
  | .val _ :: r, i, h => List.mem_cons_of_mem _ (of_refsOf (vs := r) h)
  | .raw _ _ :: r, i, h => List.mem_cons_of_mem _ (of_refsOf (vs := r) h)
  | .no :: r, i, h => List.mem_cons_of_mem _ (of_refsOf (vs := r) h)
theorem ixOf_get : ∀ {is : List Nat} {i : Nat}, i ∈ is → is[ixOf is i]? = some i
  | a :: r, i, h => by
    unfold ixOf
    split
    · rename_i e
      have e : a = i := by simpa using e
      subst e; rfl
    · rename_i e
      rcases List.mem_cons.mp h with z | h
      · subst z; simp at e
      · exact ixOf_get h
section
variable {K : PySem.W.Frag} {w w' : Wd} {M M' : Mem} {H H' : Hp}
/-- what is hidden from a callee: all objects but those at is -/
def hides (w : Wd) (M : Mem) (H : Hp) (is : List Nat) : List (Addr × HO) :=
  (List.range M.length).flatMap fun j => if j ∉ is ∧ (mem M j).live = true then ((w.ad.getD j []).filterMap fun a => (H a).map fun o => (a, o)) else []
theorem mem_hides {is : List Nat} {p : Addr × HO} (h : p ∈ hides w M H is) : ∃ j, j ∉ is ∧ j < M.length ∧ (mem M j).live = true ∧ p.1 ∈ w.ad.getD j [] ∧ H p.1 = some p.2 := by
  obtain ⟨j, h1, h2⟩ := List.mem_flatMap.mp h
  split at h2
  · rename_i c
    obtain ⟨a, h3, h4⟩ := List.mem_filterMap.mp h2
    cases q : H a with
    | none => rw [q] at h4; cases h4
    | some o =>
      rw [q] at h4
      have e : (a, o) = p := Option.some.inj h4
      subst e
      exact ⟨j, c.1, List.mem_range.mp h1, c.2, h3, q⟩
  · cases h2
theorem hides_mem {is : List Nat} {j : Nat} {a : Addr} {o : HO} (h1 : j ∉ is) (h2 : j < M.length) (h3 : (mem M j).live = true) (h4 : a ∈ w.ad.getD j []) (h5 : H a = some o) : (a, o) ∈ hides w M H is :=
  List.mem_flatMap.mpr ⟨j, List.mem_range.mpr h2, by rw [if_pos ⟨h1, h3⟩]; exact List.mem_filterMap.mpr ⟨a, h4, by rw [h5]; rfl⟩⟩
def Wd.sub (w : Wd) (M : Mem) (H : Hp) (is : List Nat) : Wd := ⟨w.S, is.map fun i => w.ad.getD i [], w.hd ++ hides w M H is⟩
theorem getD_of {α : Type} {l : List α} {i : Nat} {d x : α} (h : l[i]? = some x) : l.getD i d = x := by rw [List.getD_eq_getElem?_getD, h]; rfl
theorem at_sub {is : List Nat} {k : Nat} {as : List Addr} (hi : ∀ i ∈ is, i < w.ad.length) (e : (is.map fun i => w.ad.getD i [])[k]? = some as) : ∃ i, is[k]? = some i ∧ w.ad[i]? = some as := by
  rw [List.getElem?_map] at e
  cases q : is[k]? with
  | none => rw [q] at e; cases e
  | some i =>
    rw [q] at e
    have e : w.ad.getD i [] = as := Option.some.inj e
    have hl := hi i (List.mem_of_getElem? q)
    refine ⟨i, rfl, ?_⟩
    rw [← e, List.getD_eq_getElem?_getD, List.getElem?_eq_getElem hl]; rfl
theorem mem_map_at {is : List Nat} {k i : Nat} (e : is[k]? = some i) : mem (is.map (mem M)) k = mem M i := by
  induction is generalizing k with
  | nil => simp at e
  | cons a r ih =>
    cases k with
    | zero =>
      have e : a = i := by simpa using e
      subst e; rfl
    | succ k => exact ih (by simpa using e)
theorem SatM.sub' (s : SatM K w M H) {is : List Nat} (nd : is.Nodup) (hi : ∀ i ∈ is, i < w.ad.length) : SatM K (w.sub M H is) (is.map (mem M)) H := by
  have nn : ∀ {k j i : Nat}, k ≠ j → is[k]? = some i → is[j]? = some i → False := fun {k j i} ne e1 e2 => ne (nd_ix nd e1 e2)
  refine ⟨s.sub, by simp [Wd.sub], fun k as e => ?_, fun k as e l a ha => ?_, fun k j as bs e1 e2 l1 l2 ne a ha hb => ?_, fun p hp => ?_⟩
  · obtain ⟨i, e1, e2⟩ := at_sub hi e
    rw [mem_map_at e1]; exact s.rel i as e2
  · obtain ⟨i, e1, e2⟩ := at_sub hi e
    rw [mem_map_at e1] at l
    exact s.own i as e2 l a ha
  · obtain ⟨i, e1, e2'⟩ := at_sub hi e1
    obtain ⟨i', e3, e4⟩ := at_sub hi e2
    rw [mem_map_at e1] at l1
    rw [mem_map_at e3] at l2
    exact s.dis i i' as bs e2' e4 l1 l2 (fun z => nn ne e1 (z ▸ e3)) a ha hb
  · rcases List.mem_append.mp (show p ∈ w.hd ++ hides w M H is from hp) with hp | hp
    · obtain ⟨h1, h2, h3⟩ := s.hid p hp
      refine ⟨h1, h2, fun k as e l => ?_⟩
      obtain ⟨i, e1, e2⟩ := at_sub hi e
      rw [mem_map_at e1] at l
      exact h3 i as e2 l
    · obtain ⟨j, h1, h2, h3, h4, h5⟩ := mem_hides hp
      have ej : w.ad[j]? = some (w.ad.getD j []) := by rw [List.getD_eq_getElem?_getD, List.getElem?_eq_getElem (by rw [s.len]; exact h2)]; rfl
      refine ⟨h5, (s.own j _ ej h3 _ h4).1, fun k as e l hm => ?_⟩
      obtain ⟨i, e1, e2⟩ := at_sub hi e
      rw [mem_map_at e1] at l
      exact s.dis j i _ as ej e2 h3 l (fun z => h1 (z ▸ List.mem_of_getElem? e1)) _ h4 hm
/-- behind the call -/
theorem SatM.back (s : SatM K w M H) {is : List Nat} (nd : is.Nodup) (hi : ∀ i ∈ is, i < w.ad.length) (l : (w.sub M H is).Le w') (s' : SatM K w' M' H') :
    SatM K ⟨w'.S, w.ad ++ w'.ad.drop is.length, w.hd⟩ (DL.back M is M') H' ∧ w.Le ⟨w'.S, w.ad ++ w'.ad.drop is.length, w.hd⟩ := by
  refine ⟨?_, ⟨l.s, ⟨_, rfl⟩, rfl⟩⟩
  have hiM : ∀ i ∈ is, i < M.length := fun i h => by rw [← s.len]; exact hi i h
  obtain ⟨r, er⟩ := l.a
  have er : w'.ad = (is.map fun i => w.ad.getD i []) ++ r := er
  have hlen : is.length ≤ M'.length := by rw [← s'.len, er]; simp
  have cut : ∀ {j : Nat} {as : List Addr}, (w.ad ++ w'.ad.drop is.length)[j]? = some as →
      (∃ k, is[k]? = some j ∧ w.ad[j]? = some as ∧ w'.ad[k]? = some as ∧ mem (DL.back M is M') j = mem M' k) ∨ (j ∉ is ∧ w.ad[j]? = some as ∧ mem (DL.back M is M') j = mem M j) ∨
      (∃ k, j = M.length + k ∧ w'.ad[is.length + k]? = some as ∧ mem (DL.back M is M') j = mem M' (is.length + k)) := fun {j as} e => by
    by_cases hj : j < w.ad.length
    · rw [List.getElem?_append_left hj] at e
      have hjM : j < (wb M is M').length := by rw [wb_length, ← s.len]; exact hj
      by_cases hm : j ∈ is
      · obtain ⟨k, hk⟩ := List.getElem?_of_mem hm
        refine .inl ⟨k, hk, e, ?_, ?_⟩
        · rw [er, List.getElem?_append_left (by simp; exact (List.getElem?_eq_some_iff.mp hk).1), List.getElem?_map, hk]
          show some (w.ad.getD j []) = _
          rw [getD_of e]
        · unfold DL.back
          rw [mem_append_left hjM, wb_in nd hiM hlen hk]
      · refine .inr (.inl ⟨hm, e, ?_⟩)
        unfold DL.back
        rw [mem_append_left hjM, wb_out hm]
    · have hj' : w.ad.length ≤ j := by omega
      rw [List.getElem?_append_right hj', List.getElem?_drop] at e
      refine .inr (.inr ⟨j - w.ad.length, by rw [← s.len]; omega, e, ?_⟩)
      have ej : j = (wb M is M').length + (j - w.ad.length) := by rw [wb_length, ← s.len]; omega
      have dr : ∀ (n : Nat) (L : Mem) (k : Nat), mem (L.drop n) k = mem L (n + k) := by
        intro n
        induction n with
        | zero => intro L k; simp
        | succ n ih =>
          intro L k
          cases L with
          | nil => simp [mem]
          | cons a t =>
            rw [List.drop_succ_cons, ih, show n + 1 + k = (n + k) + 1 by omega]
            rfl
      unfold DL.back
      conv => lhs; rw [ej]
      rw [mem_append_right, dr]
  have hidA : ∀ {j : Nat} {as : List Addr}, j ∉ is → w.ad[j]? = some as → (mem M j).live = true → ∀ a ∈ as, H' a = H a ∧ w'.S a = none ∧ ∀ i bs, w'.ad[i]? = some bs → (mem M' i).live = true → a ∉ bs := fun {j as} hj e lv a ha => by
    obtain ⟨h1, o, h2⟩ := s.own j as e lv a ha
    have hjl : j < M.length := live_lt lv
    have hp : (a, o) ∈ w'.hd := by
      rw [l.h]
      exact List.mem_append_right _ (hides_mem hj hjl lv (by rw [getD_of e]; exact ha) h2)
    obtain ⟨q1, q2, q3⟩ := s'.hid _ hp
    exact ⟨by rw [h2]; exact q1, q2, q3⟩
  refine ⟨s'.sub, ?_, fun j as e => ?_, fun j as e lv a ha => ?_, fun i j as bs e1 e2 l1 l2 ne a ha hb => ?_, fun p hp => ?_⟩
  · unfold DL.back
    rw [List.length_append, List.length_append, wb_length, s.len, List.length_drop, List.length_drop, s'.len]
  · rcases cut e with ⟨k, h1, h2, h3, h4⟩ | ⟨h1, h2, h3⟩ | ⟨k, h1, h2, h3⟩
    · rw [h4]; exact s'.rel k as h3
    · rw [h3]
      have q := s.rel j as h2
      cases hm : mem M j with
      | gone => trivial
      | lst ds =>
        rw [hm] at q
        obtain ⟨a, xs, q1, q2, q3⟩ := q
        refine ⟨a, xs, q1, ?_, RpAll.mono l.s q3⟩
        rw [(hidA h1 h2 (by rw [hm]; rfl) a (by rw [q1]; simp)).1]; exact q2
      | res φ =>
        rw [hm] at q
        exact ⟨q.1, q.1 K _ _ _ _ as l.s (fun a ha => (hidA h1 h2 (by rw [hm]; rfl) a ha).1) q.2⟩
    · rw [h3]; exact s'.rel _ as h2
  · rcases cut e with ⟨k, h1, h2, h3, h4⟩ | ⟨h1, h2, h3⟩ | ⟨k, h1, h2, h3⟩
    · rw [h4] at lv; exact s'.own k as h3 lv a ha
    · rw [h3] at lv
      obtain ⟨q1, q2, _⟩ := hidA h1 h2 lv a ha
      obtain ⟨_, o, q3⟩ := s.own j as h2 lv a ha
      exact ⟨q2, o, by rw [q1]; exact q3⟩
    · rw [h3] at lv; exact s'.own _ as h2 lv a ha
  · rcases cut e1 with ⟨k, h1, h2, h3, h4⟩ | ⟨h1, h2, h3⟩ | ⟨k, h1, h2, h3⟩ <;> rcases cut e2 with ⟨k', g1, g2, g3, g4⟩ | ⟨g1, g2, g3⟩ | ⟨k', g1, g2, g3⟩
    · rw [h4] at l1
      rw [g4] at l2
      exact s'.dis k k' as bs h3 g3 l1 l2 (fun z => ne (by subst z; rw [h1] at g1; exact Option.some.inj g1)) a ha hb
    · rw [h4] at l1
      rw [g3] at l2
      exact (hidA g1 g2 l2 a hb).2.2 k as h3 l1 ha
    · rw [h4] at l1
      rw [g3] at l2
      have hk := (List.getElem?_eq_some_iff.mp h1).1
      exact s'.dis k (is.length + k') as bs h3 g2 l1 l2 (by omega) a ha hb
    · rw [h3] at l1
      rw [g4] at l2
      exact (hidA h1 h2 l1 a ha).2.2 k' bs g3 l2 hb
    · rw [h3] at l1
      rw [g3] at l2
      exact s.dis i j as bs h2 g2 l1 l2 ne a ha hb
    · rw [h3] at l1
      rw [g3] at l2
      exact (hidA h1 h2 l1 a ha).2.2 _ bs g2 l2 hb
    · rw [h3] at l1
      rw [g4] at l2
      have hk := (List.getElem?_eq_some_iff.mp g1).1
      exact s'.dis (is.length + k) k' as bs h2 g3 l1 l2 (by omega) a ha hb
    · rw [h3] at l1
      rw [g3] at l2
      exact (hidA g1 g2 l2 a hb).2.2 _ as h2 l1 ha
    · rw [h3] at l1
      rw [g3] at l2
      exact s'.dis _ _ as bs h2 g2 l1 l2 (by omega) a ha hb
  · have hp' : p ∈ w'.hd := by rw [l.h]; exact List.mem_append_left _ hp
    obtain ⟨q1, q2, q3⟩ := s'.hid p hp'
    refine ⟨q1, q2, fun j as e lv => ?_⟩
    rcases cut e with ⟨k, h1, h2, h3, h4⟩ | ⟨h1, h2, h3⟩ | ⟨k, h1, h2, h3⟩
    · rw [h4] at lv; exact q3 k as h3 lv
    · rw [h3] at lv; exact (s.hid p hp).2.2 j as h2 lv
    · rw [h3] at lv; exact q3 _ as h2 lv
theorem DvAll.inn {is : List Nat} : ∀ {vs : List V} {ds : List DV}, DvAll K w vs ds → (∀ i, .ref i ∈ ds → i ∈ is) → DvAll K (w.sub M H is) vs (ds.map (DL.inn is))
  | _, _, .nil, _ => .nil
  | _, d :: _, .cons q r, h => .cons (by
      cases d with
      | val d => exact q
      | raw v _ => exact q
      | no => exact q
      | ref i =>
        obtain ⟨a, t, e, rfl⟩ := q
        refine ⟨a, t, ?_, rfl⟩
        show (is.map fun i => w.ad.getD i [])[ixOf is i]? = _
        rw [List.getElem?_map, ixOf_get (h i List.mem_cons_self)]
        show some (w.ad.getD i []) = _
        rw [getD_of e]) (DvAll.inn r fun i hm => h i (List.mem_cons_of_mem _ hm))
theorem RelDV.outn {is : List Nat} (s : SatM K w M H) (hi : ∀ i ∈ is, i < w.ad.length) (l : (w.sub M H is).Le w') {v : V} : ∀ {d : DV}, RelDV K w' v d → RelDV K ⟨w'.S, w.ad ++ w'.ad.drop is.length, w.hd⟩ v (DL.outn is M.length d)
  | .val _, q => q
  | .raw _ _, q => q
  | .no, q => q
  | .ref k, ⟨a, t, e, q⟩ => by
    obtain ⟨r, er⟩ := l.a
    have er : w'.ad = (is.map fun i => w.ad.getD i []) ++ r := er
    show RelDV K _ v (if k < is.length then .ref (is.getD k 0) else .ref (M.length + (k - is.length)))
    by_cases hk : k < is.length
    · rw [if_pos hk]
      refine ⟨a, t, ?_, q⟩
      rw [er, List.getElem?_append_left (by simpa using hk)] at e
      obtain ⟨i, e1, e2⟩ := at_sub hi e
      rw [getD_of e1]
      show (w.ad ++ _)[i]? = _
      rw [List.getElem?_append_left (hi i (List.mem_of_getElem? e1))]; exact e2
    · rw [if_neg hk]
      refine ⟨a, t, ?_, q⟩
      show (w.ad ++ w'.ad.drop is.length)[M.length + (k - is.length)]? = _
      rw [List.getElem?_append_right (by rw [s.len]; omega), List.getElem?_drop, s.len, show is.length + (M.length + (k - is.length) - M.length) = k by omega]
      exact e
end
/-- f(..): the callee sees its own objects alone -/
def dCall (W : DSp) (t : DTA) : DTE := fun ρ M Q E => t ρ M (fun vs M1 =>
  W (vs.map (inn (refsOf vs))) ((refsOf vs).map (mem M1)) (fun r M2 => Q (outn (refsOf vs) M1.length r) (back M1 (refsOf vs) M2)) fun x M2 => E x (back M1 (refsOf vs) M2)) E
section
variable {X : Cx} {W : WX} {pos p : Pos} {x : Str} {e : Expr} {es : List Expr} {t : DTA} {Wf : DSp} {j k n : Nat}
theorem call_lift {K : PySem.W.Frag} {E : L2.St → XK} (hE : ∀ σ cls d H, W cls d σ H → E σ cls d H) (σ : L2.St) (H : Hp) (Q : VK) (h : liftE K W (dCall Wf t) σ H Q) : tCallS (liftSp K Wf) E (liftA K W t) σ H Q := by
  obtain ⟨w, M, ρ, Q0, E0, s, h, k, xo⟩ := h
  refine ⟨w, M, ρ, _, E0, s, h, fun d1 M1 w1 v1 H1 q1 l1 s1 r1 => ?_, xo⟩
  have nd := refsOf_nodup d1
  have lv : ∀ {vs : List V} {ds : List DV} {i : Nat}, DvAll K w1 vs ds → .ref i ∈ ds → i < w1.ad.length := fun {vs ds i} r => by
    induction r with
    | nil => intro h; cases h
    | cons q r ih =>
      intro h
      rcases List.mem_cons.mp h with e | h
      · subst e
        obtain ⟨a, t, e, _⟩ := q
        exact (List.getElem?_eq_some_iff.mp e).1
      · exact ih h
  have hi : ∀ i ∈ refsOf d1, i < w1.ad.length := fun i h => lv r1 (of_refsOf h)
  refine ⟨w1.sub M1 H1 (refsOf d1), _, _, _, _, s1.sub' nd hi, r1.inn fun i h => refsOf_mem h, q1, fun r M2 w2 v H2 q2 l2 s2 rv => ?_, fun x M2 w2 H2 cls d q2 l2 s2 rx => ?_⟩
  · obtain ⟨b1, b2⟩ := s1.back nd hi l2 s2
    exact k _ _ _ v H2 q2 (l1.trans b2) b1 (rv.outn s1 hi l2)
  · obtain ⟨b1, b2⟩ := s1.back nd hi l2 s2
    refine hE _ _ _ _ (xo _ _ _ _ _ _ q2 (l1.trans b2) b1 ?_)
    cases x with
    | own C fs => exact rx
    | bare c => exact rx
theorem de_call (G : DFn X.prog X.w X.K X.mg X.base x k Wf) (hr : Room j X.A) (tk : Takes X W) (ha : DA X W (e :: es) t) (hj : k ≤ j := by decide) (hg : Gl X x := by rfl) (hdb : (x == ("__debug__" : Str)) = false := by decide)
    (he : starEach (e :: es) X.env = (false, eval e X.env) :: starEach es X.env := by rfl) (hpl : (backTo pos (starEach es X.env)).any (·.1) = false := by rfl) : DE X W (.Call (.Name x p) (e :: es) [] pos) (dCall Wf t) := by
  obtain ⟨f, fd, ps, h1, h2, h3, h4⟩ := G
  exact PE.imp (pe_callS h4 (hr.mono hj) hg h1 h2 h3 (fun σ => passAt tk σ) ha hdb he hpl) fun σ H Q h => call_lift (fun _ _ _ _ z => z) σ H Q h
end
end DL

set_option Elab.async false
set_option linter.all false
set_option maxRecDepth 100000
set_option maxHeartbeats 4000000
namespace DL
open PySem PySem.Spec PyProof.Rows L2

/-! ### what is walked -/
/-- a world grows, what is hidden left aside -/
structure Wd.Le0 (w w' : Wd) : Prop where
  s : ∀ a o, w.S a = some o → w'.S a = some o
  a : ∃ r, w'.ad = w.ad ++ r
theorem Wd.Le.l0 {w w' : Wd} (h : w.Le w') : w.Le0 w' := ⟨h.s, h.a⟩
theorem Wd.Le0.trans {w w1 w2 : Wd} (h : w.Le0 w1) (k : w1.Le0 w2) : w.Le0 w2 :=
  ⟨fun a o e => k.s a o (h.s a o e), by obtain ⟨r, e⟩ := h.a; obtain ⟨r', e'⟩ := k.a; exact ⟨r ++ r', by rw [e', e, List.append_assoc]⟩⟩
theorem RelDV.mono0 {K : PySem.W.Frag} {w w' : Wd} (h : w.Le0 w') {v : V} {d : DV} (r : RelDV K w v d) : RelDV K w' v d := by
  have l : (⟨w.S, w.ad, w'.hd⟩ : Wd).Le w' := ⟨h.s, h.a, rfl⟩
  have r' : RelDV K ⟨w.S, w.ad, w'.hd⟩ v d := by
    cases d with
    | val d => exact r
    | ref i => exact r
    | raw v _ => exact r
    | no => exact r
  exact RelDV.mono l r'
/-- the walk J, from the world w on, gives just these items, as long as C holds of the memory -/
def GoodIt (K : PySem.W.Frag) (J : It) (w : Wd) (items : List DV) (C : Mem → Prop) : Prop := ∀ w' M' H', w.Le0 w' → SatM K w' M' H' → C M' →
  (∀ i, items.length ≤ i → J.stop i H') ∧ ∀ i x, items[i]? = some x → J.go i H' ∧ ∀ v H'', J.yld i H' v H'' → ∃ w'', w'.Le w'' ∧ SatM K w'' M' H'' ∧ RelDV K w'' v x
abbrev DTI := Sl → Mem → (List DV → (Mem → Prop) → Mem → Prop) → DX → Prop
def liftI (K : PySem.W.Frag) (W : WX) (ti : DTI) : TI := fun σ H R => ∃ w M ρ R0 E0, Sat K w M ρ σ H ∧ ti ρ M R0 E0 ∧ (∀ items C M' w' H' J, R0 items C M' → w.Le w' → SatM K w' M' H' → C M' → GoodIt K J w' items C → R J H') ∧ XOk K W w σ E0
def DI (X : Cx) (W : WX) (tg e : Expr) (ti : DTI) : Prop := PI X tg e (liftI X.K W ti)
section
variable {X : Cx} {W : WX} {tg l : Expr} {pos p : Pos}
theorem PI.imp {e : Expr} {t t' : TI} (h : PI X tg e t) (i : ∀ σ H Q, t' σ H Q → t σ H Q) : PI X tg e t' := ⟨fun pins s σ H Q I q => h.run pins s σ H Q I (i _ _ _ q)⟩
def iAny (K : PySem.W.Frag) (tl : TE) : TI := fun σ H R => tl σ H fun x H1 => ∃ a, x = .ref a ∧ (((∃ xs, SqL K H1 a xs) ∧ R (Itl K a) H1) ∨ ((∃ xs, SqT K H1 a xs) ∧ R (Itt K a) H1))
theorem pi_any {l : Expr} {tl : TE} (hl : PE X l tl) : PI X tg l (iAny X.K tl) := by
  refine ⟨fun pins s σ H R I h => ?_⟩
  refine thn (hl.run pins s σ H _ I h) fun v s1 ⟨x, H1, I1, r1, q1⟩ => ?_
  obtain ⟨a, e, q⟩ := q1
  subst e
  cases r1
  rcases q with ⟨⟨xs, hq⟩, q⟩ | ⟨⟨xs, hq⟩, q⟩
  · obtain ⟨its, rv, p, hz⟩ := I1.list hq
    refine wpAny_pyIter_list p.isList ?_
    refine ⟨s1.heap.objs.size, [s1.heap.objs.size], _, _, H1, rfl, I1.kept (t' := s1.toks) fun b o e => Heap.get?_push_of_some _ e, turn_list a _, ⟨_, Heap.get?_push_size _ rfl, rfl, rfl⟩, fun b hb => ?_, q⟩
    have e : b = s1.heap.objs.size := by simpa using hb
    subst e
    exact I1.fpOk (Nat.le_refl _) (I1.hok.fresh (Nat.le_refl _))
  · obtain ⟨its, rv, p, hz⟩ := I1.tuple hq
    refine wpAny_pyIter_tuple (show s1.heap.IsTuple a its.toArray from p) ?_
    refine ⟨s1.heap.objs.size, [s1.heap.objs.size], _, _, H1, rfl, I1.kept (t' := s1.toks) fun b o e => Heap.get?_push_of_some _ e, turn_tuple a _, ⟨_, Heap.get?_push_size _ rfl, rfl, rfl⟩, fun b hb => ?_, q⟩
    have e : b = s1.heap.objs.size := by simpa using hb
    subst e
    exact I1.fpOk (Nat.le_refl _) (I1.hok.fresh (Nat.le_refl _))
theorem atL {K : PySem.W.Frag} {a : Addr} {xs : List V} {ds : List PyData} {w' : Wd} {M' : Mem} {H' : Hp} (s : SatM K w' M' H') (q : SqL K H' a xs) (r : RpAll K w'.S xs ds) :
    (∀ i, (ds.map DV.val).length ≤ i → (Itl K a).stop i H') ∧ ∀ i x, (ds.map DV.val)[i]? = some x → (Itl K a).go i H' ∧ ∀ v H'', (Itl K a).yld i H' v H'' → ∃ w'', w'.Le w'' ∧ SatM K w'' M' H'' ∧ RelDV K w'' v x := by
  refine ⟨fun i hi => ⟨xs, q, by rw [RpAll.length r]; simpa using hi⟩, fun i x e => ?_⟩
  rw [List.getElem?_map] at e
  cases ed : ds[i]? with
  | none => rw [ed] at e; cases e
  | some d =>
    rw [ed] at e
    obtain ⟨v, e1, e2⟩ := RpAll.get r ed
    refine ⟨⟨xs, v, q, e1⟩, fun v' H'' ⟨z1, z2⟩ => ⟨w', .refl w', by rw [z1]; exact s, ?_⟩⟩
    have e3 : x = .val d := (Option.some.inj e).symm
    subst e3
    have e4 : v' = v := Option.some.inj ((z2 xs q).symm.trans e1)
    subst e4
    exact e2
theorem goodL {K : PySem.W.Frag} {a : Addr} {xs : List V} {ds : List PyData} {w : Wd} {C : Mem → Prop} (h : ∀ w' M' H', w.Le0 w' → SatM K w' M' H' → C M' → SqL K H' a xs) (r : RpAll K w.S xs ds) : GoodIt K (Itl K a) w (ds.map .val) C := fun w' M' H' l s c =>
  atL s (h w' M' H' l s c) (RpAll.mono l.s r)
theorem goodT {K : PySem.W.Frag} {a : Addr} {xs : List V} {ds : List PyData} {w : Wd} (h : SqT K w.S a xs) (r : RpAll K w.S xs ds) : GoodIt K (Itt K a) w (ds.map .val) (fun _ => True) := fun w' M' H' l s c => by
  have q := SqT.mono s.sub (SqT.mono l.s h)
  refine ⟨fun i hi => ⟨xs, q, by rw [RpAll.length r]; simpa using hi⟩, fun i x e => ?_⟩
  rw [List.getElem?_map] at e
  cases ed : ds[i]? with
  | none => rw [ed] at e; cases e
  | some d =>
    rw [ed] at e
    obtain ⟨v, e1, e2⟩ := RpAll.get r ed
    refine ⟨⟨xs, v, q, e1⟩, fun v' H'' ⟨z1, z2⟩ => ⟨w', .refl w', by rw [z1]; exact s, ?_⟩⟩
    have e3 : x = .val d := (Option.some.inj e).symm
    subst e3
    have e4 : v' = v := Option.some.inj ((z2 xs q).symm.trans e1)
    subst e4
    exact Rp.mono l.s e2
/-- the items of a list, a tuple -/
def items (M : Mem) (x : DV) (k : List DV → (Mem → Prop) → Prop) : Prop := match x with
  | .val (.list ds) => k (ds.map .val) fun _ => True
  | .val (.tuple ds) => k (ds.map .val) fun _ => True
  | .ref i => match mem M i with
    | .lst ds => k (ds.map .val) fun M' => mem M' i = .lst ds
    | _ => False
  | _ => False
def dIt (te : DTE) : DTI := fun ρ M R E => te ρ M (fun x M1 => items M1 x fun is C => R is C M1) E
theorem di_seq {te : DTE} (h : DE X W l te) : DI X W tg l (dIt te) := PI.imp (pi_any h) fun σ H R ⟨w, M, ρ, R0, E0, s, h, k, xo⟩ => by
  refine ⟨w, M, ρ, _, E0, s, h, fun d1 M1 w1 v1 H1 h1 l1 s1 r1 => ?_, xo⟩
  cases d1 with
  | val d =>
    cases d with
    | list ds =>
      cases r1 with
      | lst q r => exact ⟨_, rfl, .inl ⟨⟨_, SqL.of (s1.sub _ _ q)⟩, k _ _ M1 w1 H1 _ h1 l1 s1 trivial (goodL (fun w' M' H' l s _ => SqL.of (s.sub _ _ (l.s _ _ q))) r)⟩⟩
    | tuple ds =>
      cases r1 with
      | tup q r => exact ⟨_, rfl, .inr ⟨⟨_, SqT.mono s1.sub q⟩, k _ _ M1 w1 H1 _ h1 l1 s1 trivial (goodT q r)⟩⟩
    | none => exact h1.elim
    | bool _ => exact h1.elim
    | int _ => exact h1.elim
    | str _ => exact h1.elim
    | dict _ => exact h1.elim
  | raw v _ => exact h1.elim
  | no => exact h1.elim
  | ref i =>
    unfold items at h1
    cases hm : mem M1 i with
    | gone => simp only [hm] at h1
    | res φ => simp only [hm] at h1
    | lst ds =>
      simp only [hm] at h1
      obtain ⟨p, xs, rfl, e, q1, q2⟩ := s1.at hm r1
      refine ⟨_, rfl, .inl ⟨⟨_, SqL.of q1⟩, k _ _ M1 w1 H1 _ h1 l1 s1 hm ?_⟩⟩
      intro w' M' H' l s c
      obtain ⟨p', xs', e1, e2, e3, e4⟩ := s.at c (RelDV.mono0 l r1)
      cases e1
      exact atL s (SqL.of e3) e4
/-- range -/
def rangeD (lo : Int) (n : Nat) : List DV := (List.range n).map fun i => .val (.int (lo + (i : Nat)))
theorem goodR {K : PySem.W.Frag} {w : Wd} {lo : Int} {n : Nat} : GoodIt K (Itr lo n) w (rangeD lo n) (fun _ => True) := fun w' M' H' l s _ => by
  refine ⟨fun i hi => (by simpa [rangeD] using hi : n ≤ i), fun i x e => ?_⟩
  obtain ⟨hi, e⟩ := List.getElem?_eq_some_iff.mp e
  have hi' : i < n := by simpa [rangeD] using hi
  refine ⟨hi', fun v H'' ⟨z1, z2⟩ => ⟨w', .refl w', by rw [z1]; exact s, ?_⟩⟩
  have e' : x = .val (.int (lo + (i : Nat))) := by rw [← e]; simp [rangeD]
  subst e'
  rw [z2]
  exact Rp.int _
def dR1 (t : DTA) : DTI := fun ρ M R E => t ρ M (fun xs M1 => match xs with
  | [.val (.int j)] => -(2 ^ 62) ≤ j ∧ j < 2 ^ 62 ∧ R (rangeD 0 j.toNat) (fun _ => True) M1
  | _ => False) E
def dR2 (t : DTA) : DTI := fun ρ M R E => t ρ M (fun xs M1 => match xs with
  | [.val (.int i), .val (.int j)] => -(2 ^ 62) ≤ i ∧ i < 2 ^ 62 ∧ -(2 ^ 62) ≤ j ∧ j < 2 ^ 62 ∧ R (rangeD i (j - i).toNat) (fun _ => True) M1
  | _ => False) E
variable {a b c : Expr} {t : DTA}
theorem di_range1 (hm : X.mg "range" = none) (ha : DA X W [a] t) (hg : Gl X "range" := by rfl) (hs : starEach [a] X.env = [(false, eval a X.env)] := by rfl) : DI X W tg (.Call (.Name "range" p) [a] [] pos) (dR1 t) :=
  PI.imp (pi_range1 hg hm ha hs) fun σ H R ⟨w, M, ρ, R0, E0, s, h, k, xo⟩ => ⟨w, M, ρ, _, E0, s, h, fun d1 M1 w1 v1 H1 h1 l1 s1 r1 => by
    match d1, r1, h1 with
    | [.val (.int j)], .cons (v := v) q .nil, h1 =>
      cases q
      exact ⟨j, rfl, h1.1, h1.2.1, k _ _ M1 w1 H1 _ h1.2.2 l1 s1 trivial goodR⟩, xo⟩
theorem di_range2 (hm : X.mg "range" = none) (ha : DA X W [a, b] t) (hg : Gl X "range" := by rfl) (hs : starEach [a, b] X.env = [(false, eval a X.env), (false, eval b X.env)] := by rfl) (hs2 : starEach [b] X.env = [(false, eval b X.env)] := by rfl) : DI X W tg (.Call (.Name "range" p) [a, b] [] pos) (dR2 t) :=
  PI.imp (pi_range2 hg hm ha hs hs2) fun σ H R ⟨w, M, ρ, R0, E0, s, h, k, xo⟩ => ⟨w, M, ρ, _, E0, s, h, fun d1 M1 w1 v1 H1 h1 l1 s1 r1 => by
    match d1, r1, h1 with
    | [.val (.int i), .val (.int j)], .cons q (.cons q2 .nil), h1 =>
      cases q
      cases q2
      exact ⟨i, j, rfl, ⟨h1.1, h1.2.1, h1.2.2.1, h1.2.2.2.1⟩, k _ _ M1 w1 H1 _ h1.2.2.2.2 l1 s1 trivial goodR⟩, xo⟩
/-! ### for -/
def forL (g : DTG) (tb : DTS) (D : DEn) (C : Mem → Prop) : List DV → Sl → Mem → Prop
  | [], ρ, M => C M ∧ D.nx ρ M
  | x :: xs, ρ, M => C M ∧ g x ρ M fun ρ' M' => tb { D with nx := forL g tb D C xs, ct := forL g tb D C xs, bk := D.nx } ρ' M'
def dFor (ti : DTI) (g : DTG) (tb : DTS) : DTS := fun D ρ M => ti ρ M (fun is C M1 => forL g tb D C is ρ M1) fun x M1 => D.ex x ρ M1
theorem ds_for {iter : Expr} {body : List Stmt} {ti : DTI} {g : DTG} {tb : DTS} (hp : PassesOwn (model X.prog X.w) X.A X.env X.xe) (hc : X.calm = true) (hi : DI X W tg iter ti) (hg : DG X tg g) (hb : DSs X W body tb)
    (hs : ∀ x, foldedSetIterable iter X.env x = pure x := by intro _; rfl) : DS X W (.For tg iter body [] pos) (dFor ti g tb) := PS.imp (ps_for hp hc hi hg hb hs) fun D σ H ⟨w, M, ρ, D0, s, h, k⟩ => by
  refine ⟨w, M, ρ, _, _, s, h, fun is C M1 w1 H1 J h1 l1 s1 c1 gd => ?_, k.xok s.s⟩
  refine ⟨fun i m σ H => i ≤ is.length ∧ m = is.length - i ∧ ∃ w' M' ρ', w1.Le w' ∧ Sat X.K w' M' ρ' σ H ∧ forL g tb D0 C (is.drop i) ρ' M', ⟨_, Nat.zero_le _, rfl, w1, M1, ρ, .refl w1, ⟨s1, s.s.mono l1⟩, by rw [List.drop_zero]; exact h1⟩, ?_⟩
  rintro i m σ' H' ⟨hi, rfl, w', M', ρ', l', s', f⟩
  by_cases e : i < is.length
  · have ed : is.drop i = is[i] :: is.drop (i + 1) := List.drop_eq_getElem_cons e
    rw [ed] at f
    obtain ⟨c, f⟩ := f
    obtain ⟨_, g2⟩ := gd w' M' H' l'.l0 s'.m c
    obtain ⟨q1, q2⟩ := g2 i is[i] (List.getElem?_eq_getElem e)
    refine .inr ⟨q1, fun σ' H' => ∃ w' M' ρ', w1.Le w' ∧ Sat X.K w' M' ρ' σ' H' ∧ forL g tb D0 C (is.drop (i + 1)) ρ' M', fun σ2 H2 z => ⟨_, by omega, e, rfl, z⟩, fun v H2 y => ?_⟩
    obtain ⟨w2, l2, s2, r2⟩ := q2 v H2 y
    have l02 := l1.trans (l'.trans l2)
    refine ⟨w2, M', ρ', _, _, ⟨s2, s'.s.mono l2⟩, r2, f, fun ρ3 M3 w3 σ3 H3 f3 l3 s3 => ?_⟩
    have l13 := l'.trans (l2.trans l3)
    refine ⟨w3, M3, ρ3, _, s3, f3, ⟨fun ρ4 M4 w4 σ4 H4 f4 l4 s4 => ⟨w4, M4, ρ4, l13.trans l4, s4, f4⟩, ?_, ?_, fun ρ4 M4 w4 σ4 H4 f4 l4 s4 => ⟨w4, M4, ρ4, l13.trans l4, s4, f4⟩, ?_⟩⟩
    · exact k.rt.le (l1.trans l13)
    · exact fun ρ4 M4 w4 σ4 H4 f4 l4 s4 => k.nx ρ4 M4 w4 σ4 H4 f4 ((l1.trans l13).trans l4) s4
    · exact fun x ρ4 M4 w4 σ4 H4 cls d f4 l4 s4 r4 => k.ex x ρ4 M4 w4 σ4 H4 cls d f4 ((l1.trans l13).trans l4) s4 r4
  · have e' : i = is.length := by omega
    subst e'
    rw [List.drop_length] at f
    exact .inl ⟨(gd w' M' H' l'.l0 s'.m f.1).1 _ (Nat.le_refl _), k.nx ρ' M' w' σ' H' f.2 (l1.trans l') s'⟩
/-- the same, what the turns make anew being let go behind each turn -/
def forget (n : Nat) : Sl → Sl
  | [] => []
  | .ref i :: r => (if i < n then .ref i else .no) :: forget n r
  | d :: r => d :: forget n r
theorem SlAll.forget {K : PySem.W.Frag} {w : Wd} {n : Nat} : ∀ {σ : L2.St} {ρ : Sl}, SlAll K w σ ρ → SlAll K ⟨w.S, w.ad.take n, w.hd⟩ σ (DL.forget n ρ)
  | _, _, .nil => .nil
  | _, .ref i :: _, .cons q r => by
    refine .cons ?_ (SlAll.forget r)
    by_cases h : i < n
    · rw [if_pos h]
      obtain ⟨v, e, rv⟩ := q
      exact ⟨v, e, RelDV.trim (d := .ref i) rv h⟩
    · rw [if_neg h]; trivial
  | _, .val _ :: _, .cons q r => .cons (by obtain ⟨v, e, rv⟩ := q; exact ⟨v, e, rv⟩) (SlAll.forget r)
  | _, .raw _ _ :: _, .cons q r => .cons (by obtain ⟨v, e, rv⟩ := q; exact ⟨v, e, rv⟩) (SlAll.forget r)
  | _, .no :: _, .cons q r => .cons trivial (SlAll.forget r)
theorem Sat.forget {K : PySem.W.Frag} {w : Wd} {M : Mem} {ρ : Sl} {σ : L2.St} {H : Hp} (s : Sat K w M ρ σ H) (n : Nat) : Sat K ⟨w.S, w.ad.take n, w.hd⟩ (M.take n) (DL.forget n ρ) σ H := ⟨s.m.trim n, s.s.forget⟩
def forT (n : Nat) (g : DTG) (tb : DTS) (D : DEn) (C : Mem → Prop) : List DV → Sl → Mem → Prop
  | [], ρ, M => C M ∧ D.nx ρ M
  | x :: xs, ρ, M => C M ∧ g x ρ M fun ρ' M' => tb { D with nx := fun ρ M => forT n g tb D C xs (forget n ρ) (M.take n), ct := fun ρ M => forT n g tb D C xs (forget n ρ) (M.take n), bk := D.nx } ρ' M'
def dForT (ti : DTI) (g : DTG) (tb : DTS) : DTS := fun D ρ M => ti ρ M (fun is C M1 => forT M1.length g tb D C is ρ M1) fun x M1 => D.ex x ρ M1
theorem ds_forT {iter : Expr} {body : List Stmt} {ti : DTI} {g : DTG} {tb : DTS} (hp : PassesOwn (model X.prog X.w) X.A X.env X.xe) (hc : X.calm = true) (hi : DI X W tg iter ti) (hg : DG X tg g) (hb : DSs X W body tb)
    (hs : ∀ x, foldedSetIterable iter X.env x = pure x := by intro _; rfl) : DS X W (.For tg iter body [] pos) (dForT ti g tb) := PS.imp (ps_for hp hc hi hg hb hs) fun D σ H ⟨w, M, ρ, D0, s, h, k⟩ => by
  refine ⟨w, M, ρ, _, _, s, h, fun is C M1 w1 H1 J h1 l1 s1 c1 gd => ?_, k.xok s.s⟩
  have ln : w1.ad.length = M1.length := s1.len
  refine ⟨fun i m σ H => i ≤ is.length ∧ m = is.length - i ∧ ∃ w' M' ρ', w1.Le w' ∧ Sat X.K w' M' ρ' σ H ∧ forT M1.length g tb D0 C (is.drop i) ρ' M', ⟨_, Nat.zero_le _, rfl, w1, M1, ρ, .refl w1, ⟨s1, s.s.mono l1⟩, by rw [List.drop_zero]; exact h1⟩, ?_⟩
  rintro i m σ' H' ⟨hi, rfl, w', M', ρ', l', s', f⟩
  by_cases e : i < is.length
  · have ed : is.drop i = is[i] :: is.drop (i + 1) := List.drop_eq_getElem_cons e
    rw [ed] at f
    obtain ⟨c, f⟩ := f
    obtain ⟨_, g2⟩ := gd w' M' H' l'.l0 s'.m c
    obtain ⟨q1, q2⟩ := g2 i is[i] (List.getElem?_eq_getElem e)
    refine .inr ⟨q1, fun σ' H' => ∃ w' M' ρ', w1.Le w' ∧ Sat X.K w' M' ρ' σ' H' ∧ forT M1.length g tb D0 C (is.drop (i + 1)) ρ' M', fun σ2 H2 z => ⟨_, by omega, e, rfl, z⟩, fun v H2 y => ?_⟩
    obtain ⟨w2, l2, s2, r2⟩ := q2 v H2 y
    have l02 := l1.trans (l'.trans l2)
    refine ⟨w2, M', ρ', _, _, ⟨s2, s'.s.mono l2⟩, r2, f, fun ρ3 M3 w3 σ3 H3 f3 l3 s3 => ?_⟩
    have l13 := l'.trans (l2.trans l3)
    have tr : ∀ {w4 : Wd}, w1.Le w4 → w1.Le ⟨w4.S, w4.ad.take M1.length, w4.hd⟩ := fun {w4} l4 => by rw [← ln]; exact l4.trim
    refine ⟨w3, M3, ρ3, _, s3, f3, ⟨fun ρ4 M4 w4 σ4 H4 f4 l4 s4 => ⟨_, _, _, tr (l13.trans l4), s4.forget _, f4⟩, ?_, ?_, fun ρ4 M4 w4 σ4 H4 f4 l4 s4 => ⟨_, _, _, tr (l13.trans l4), s4.forget _, f4⟩, ?_⟩⟩
    · exact k.rt.le (l1.trans l13)
    · exact fun ρ4 M4 w4 σ4 H4 f4 l4 s4 => k.nx ρ4 M4 w4 σ4 H4 f4 ((l1.trans l13).trans l4) s4
    · exact fun x ρ4 M4 w4 σ4 H4 cls d f4 l4 s4 r4 => k.ex x ρ4 M4 w4 σ4 H4 cls d f4 ((l1.trans l13).trans l4) s4 r4
  · have e' : i = is.length := by omega
    subst e'
    rw [List.drop_length] at f
    exact .inl ⟨(gd w' M' H' l'.l0 s'.m f.1).1 _ (Nat.le_refl _), k.nx ρ' M' w' σ' H' f.2 (l1.trans l') s'⟩
/-! ### while -/
def whL (c : DTT) (tb : DTS) (D : DEn) : Nat → Sl → Mem → Prop
  | 0, _, _ => False
  | n + 1, ρ, M => c ρ M (fun b M1 => if b = true then tb { D with nx := whL c tb D n, ct := whL c tb D n, bk := D.nx } ρ M1 else D.nx ρ M1) fun x M1 => D.ex x ρ M1
def dWhile (c : DTT) (tb : DTS) : DTS := fun D ρ M => ∃ n, whL c tb D n ρ M
theorem ds_while {e : Expr} {body : List Stmt} {tc : DTT} {tb : DTS} (hp : PassesOwn (model X.prog X.w) X.A X.env X.xe) (hc : DT X W e tc) (hb : DSs X W body tb) : DS X W (.While e body [] pos) (dWhile tc tb) := PS.imp (ps_while hp hc hb) fun D σ H ⟨w, M, ρ, D0, s, ⟨n, h⟩, k⟩ => by
  refine ⟨fun m σ H => ∃ w' M' ρ', w.Le w' ∧ Sat X.K w' M' ρ' σ H ∧ whL tc tb D0 m ρ' M', ⟨n, w, M, ρ, .refl w, s, h⟩, ?_⟩
  rintro m σ' H' ⟨w', M', ρ', l', s', f⟩
  cases m with
  | zero => exact f.elim
  | succ m =>
    refine ⟨w', M', ρ', _, _, s', f, fun b M1 w1 H1 h1 l1 s1 => ?_, (k.le l').xok s'.s⟩
    cases b with
    | true =>
      rw [if_pos rfl] at h1
      rw [if_pos rfl]
      refine ⟨fun σ H => ∃ w' M' ρ', w.Le w' ∧ Sat X.K w' M' ρ' σ H ∧ whL tc tb D0 m ρ' M', fun σ2 H2 z => ⟨m, Nat.lt_succ_self _, z⟩, w1, M1, ρ', _, ⟨s1, s'.s.mono l1⟩, h1, ?_⟩
      have l01 := l'.trans l1
      exact ⟨fun ρ4 M4 w4 σ4 H4 f4 l4 s4 => ⟨w4, M4, ρ4, l01.trans l4, s4, f4⟩, k.rt.le l01, fun ρ4 M4 w4 σ4 H4 f4 l4 s4 => k.nx ρ4 M4 w4 σ4 H4 f4 (l01.trans l4) s4, fun ρ4 M4 w4 σ4 H4 f4 l4 s4 => ⟨w4, M4, ρ4, l01.trans l4, s4, f4⟩,
        fun x ρ4 M4 w4 σ4 H4 cls d f4 l4 s4 r4 => k.ex x ρ4 M4 w4 σ4 H4 cls d f4 (l01.trans l4) s4 r4⟩
    | false =>
      rw [if_neg Bool.false_ne_true] at h1
      rw [if_neg Bool.false_ne_true]
      exact k.nx ρ' M1 w1 σ' H1 h1 (l'.trans l1) ⟨s1, s'.s.mono l1⟩
/-! ### list comprehensions -/
def wipeD (ρ : Sl) : List Nat → Sl
  | [] => ρ
  | v :: vs => put (wipeD ρ vs) v .no
theorem SlAll.wipe {K : PySem.W.Frag} {w : Wd} {σ : L2.St} {ρ : Sl} (s : SlAll K w σ ρ) : ∀ vs : List Nat, SlAll K w (L2.wipe σ vs) (wipeD ρ vs)
  | [] => s
  | v :: vs => SlAll.put (K := K) (w := w) (o := none) (x := .no) trivial v (s.wipe vs)
/-- a world with one more thing hidden -/
def Wd.hide (w : Wd) (D : Addr) (xs : List V) : Wd := ⟨w.S, w.ad, (D, .lst xs) :: w.hd⟩
section
variable {K : PySem.W.Frag} {w w' : Wd} {M : Mem} {H : Hp} {D : Addr} {xs ys : List V} {ds : List PyData}
theorem SatM.hide (s : SatM K w M H) (h : H D = none) (xs : List V) : SatM K (w.hide D xs) M (upd H D (.lst xs)) := by
  have k := s.keep (upd_sameH (o := .lst xs) h)
  refine ⟨k.sub, k.len, k.rel, k.own, k.dis, fun p hp => ?_⟩
  rcases List.mem_cons.mp (show p ∈ (D, .lst xs) :: w.hd from hp) with e | hp
  · subst e
    exact ⟨upd_same, s.noS h, (s.apart h).1⟩
  · exact k.hid p hp
theorem SatM.bare (s : SatM K (w.hide D xs) M H) : SatM K w M H := ⟨s.sub, s.len, s.rel, s.own, s.dis, fun p hp => s.hid p (List.mem_cons_of_mem _ hp)⟩
theorem SatM.hidden (s : SatM K (w.hide D xs) M H) : H D = some (.lst xs) ∧ w.S D = none ∧ ∀ i as, w.ad[i]? = some as → (mem M i).live = true → D ∉ as := s.hid (D, .lst xs) List.mem_cons_self
theorem SatM.rehide (s : SatM K (w.hide D xs) M H) (hw : ∀ p ∈ w.hd, p.1 ≠ D) (ys : List V) : SatM K (w.hide D ys) M (upd H D (.lst ys)) := by
  obtain ⟨h1, h2, h3⟩ := s.hidden
  refine ⟨fun a o e => ?_, s.len, fun i as e => ?_, fun i as e l a ha => ?_, s.dis, fun p hp => ?_⟩
  · rw [upd_ne (fun z => by subst z; have e : w.S a = some o := e; rw [h2] at e; cases e)]; exact s.sub a o e
  · have q := s.rel i as e
    have ne : (mem M i).live = true → ∀ a ∈ as, a ≠ D := fun l a ha z => h3 i as e l (z ▸ ha)
    cases hm : mem M i with
    | gone => trivial
    | lst es =>
      rw [hm] at q ne
      obtain ⟨a, zs, e1, e2, e3⟩ := q
      exact ⟨a, zs, e1, by rw [upd_ne (ne rfl a (by rw [e1]; simp))]; exact e2, e3⟩
    | res φ =>
      rw [hm] at q ne
      exact ⟨q.1, q.1 K _ _ _ _ as (fun _ _ z => z) (fun a ha => upd_ne (ne rfl a ha)) q.2⟩
  · obtain ⟨q1, o, q2⟩ := s.own i as e l a ha
    exact ⟨q1, o, by rw [upd_ne (fun z => by subst z; exact h3 i as e l ha)]; exact q2⟩
  · rcases List.mem_cons.mp (show p ∈ (D, .lst ys) :: w.hd from hp) with e | hp
    · subst e
      exact ⟨upd_same, h2, h3⟩
    · obtain ⟨q1, q2, q3⟩ := s.hid p (List.mem_cons_of_mem _ hp)
      exact ⟨by rw [upd_ne (hw p hp)]; exact q1, q2, q3⟩
theorem SatM.showS (s : SatM K (w.hide D xs) M H) (hw : ∀ p ∈ w.hd, p.1 ≠ D) : SatM K ⟨upd w.S D (.lst xs), w.ad, w.hd⟩ M H :=
  s.bare.more s.hidden.1 ⟨s.hidden.2.2, hw⟩
/-- a list that stands there, tracked by itself, becomes a mutable object -/
theorem SatM.showM (s : SatM K (w.hide D xs) M H) (hw : ∀ p ∈ w.hd, p.1 ≠ D) (r : RpAll K w.S xs ds) : SatM K ⟨w.S, w.ad ++ [[D]], w.hd⟩ (M ++ [.lst ds]) H := by
  obtain ⟨h1, h2, h3⟩ := s.hidden
  have k := s.bare
  have cut : ∀ {i : Nat} {as : List Addr}, (w.ad ++ [[D]])[i]? = some as → (i < M.length ∧ w.ad[i]? = some as) ∨ (i = M.length ∧ as = [D]) := fun {i as} e => by
    by_cases z : i < w.ad.length
    · rw [List.getElem?_append_left z] at e
      exact .inl ⟨by rw [← k.len]; exact z, e⟩
    · have z' : w.ad.length ≤ i := by omega
      rw [List.getElem?_append_right z'] at e
      have e0 : i - w.ad.length = 0 := by
        obtain ⟨q, _⟩ := List.getElem?_eq_some_iff.mp e
        simp at q; omega
      rw [e0] at e
      simp at e
      exact .inr ⟨by rw [← k.len]; omega, e.symm⟩
  refine ⟨k.sub, by simp [k.len], fun i as e => ?_, fun i as e l a ha => ?_, fun i j as bs e1 e2 l1 l2 ne a ha hb => ?_, fun q hq => ⟨(k.hid q hq).1, (k.hid q hq).2.1, fun i as e l hm => ?_⟩⟩
  · rcases cut e with ⟨hi, e'⟩ | ⟨hi, e'⟩
    · rw [mem_append_left hi]; exact k.rel i as e'
    · subst hi e'
      rw [mem_append_0]
      exact ⟨D, xs, rfl, h1, r⟩
  · rcases cut e with ⟨hi, e'⟩ | ⟨hi, e'⟩
    · rw [mem_append_left hi] at l
      exact k.own i as e' l a ha
    · subst hi e'
      have z : a = D := by simpa using ha
      subst z
      exact ⟨h2, _, h1⟩
  · rcases cut e1 with ⟨hi, e1⟩ | ⟨hi, e1⟩ <;> rcases cut e2 with ⟨hj, e2⟩ | ⟨hj, e2⟩
    · rw [mem_append_left hi] at l1
      rw [mem_append_left hj] at l2
      exact k.dis i j as bs e1 e2 l1 l2 ne a ha hb
    · subst e2
      rw [mem_append_left hi] at l1
      have z : a = D := by simpa using hb
      exact h3 i as e1 l1 (z ▸ ha)
    · subst e1
      rw [mem_append_left hj] at l2
      have z : a = D := by simpa using ha
      exact h3 j bs e2 l2 (z ▸ hb)
    · exact ne (hi.trans hj.symm)
  · rcases cut e with ⟨hi, e'⟩ | ⟨hi, e'⟩
    · rw [mem_append_left hi] at l
      exact (k.hid q hq).2.2 i as e' l hm
    · subst e'
      exact hw q hq (by simpa using hm)
theorem SlAll.hd {σ : L2.St} {ρ : Sl} (s : SlAll K w σ ρ) (h : List (Addr × HO)) : SlAll K ⟨w.S, w.ad, h⟩ σ ρ := by
  induction s with
  | nil => exact .nil
  | @cons o σ d ρ q r ih =>
    refine .cons ?_ ih
    cases d with
    | no => trivial
    | val d => exact q
    | ref i => exact q
    | raw v _ => exact q
theorem RelDV.hd {v : V} {d : DV} (r : RelDV K w v d) (h : List (Addr × HO)) : RelDV K ⟨w.S, w.ad, h⟩ v d := by
  cases d with
  | val d => exact r
  | ref i => exact r
  | raw v _ => exact r
  | no => exact r
/-- behind a step under cover -/
theorem Wd.Le.un (l : (w.hide D xs).Le w') : w' = (⟨w'.S, w'.ad, w.hd⟩ : Wd).hide D xs ∧ w.Le ⟨w'.S, w'.ad, w.hd⟩ := by
  obtain ⟨S, ad, hd⟩ := w'
  have e : hd = (D, .lst xs) :: w.hd := l.h
  subst e
  exact ⟨rfl, l.s, l.a, rfl⟩
end
/-- targets that store into the comprehension's own slots alone -/
def GC (K : PySem.W.Frag) (vs : List Nat) (g : L2.TG) (t : DTG) : Prop := ∀ w M ρ x Q0 v σ H (Q : L2.St → Hp → Prop), Sat K w M ρ σ H → RelDV K w v x → t x ρ M Q0 →
  (∀ ρ' M' w' σ' H', Q0 ρ' M' → w.Le w' → Sat K w' M' ρ' σ' H' → L2.wipe σ' vs = L2.wipe σ vs → Q σ' H') → g v σ H Q
def GCs (K : PySem.W.Frag) (vs : List Nat) (g : L2.TGs) (t : DTGs) : Prop := ∀ w M ρ xs Q0 v σ H (Q : L2.St → Hp → Prop), Sat K w M ρ σ H → RpAll K w.S v xs → t xs ρ M Q0 →
  (∀ ρ' M' w' σ' H', Q0 ρ' M' → w.Le w' → Sat K w' M' ρ' σ' H' → L2.wipe σ' vs = L2.wipe σ vs → Q σ' H') → g v σ H Q
theorem wipe_out' {σ : L2.St} {i : Nat} {o : Option V} : ∀ {vs : List Nat}, i ∉ vs → L2.wipe (σ.set i o) vs = (L2.wipe σ vs).set i o
  | [], _ => rfl
  | a :: r, h => by
    unfold L2.wipe
    rw [wipe_out' (fun z => h (List.mem_cons_of_mem _ z)), List.set_comm _ _ (fun z => h (by rw [z]; exact List.mem_cons_self))]
theorem wipe_set {σ : L2.St} {i : Nat} {o : Option V} : ∀ {vs : List Nat}, i ∈ vs → L2.wipe (σ.set i o) vs = L2.wipe σ vs
  | v :: vs, h => by
    unfold L2.wipe
    by_cases e : i ∈ vs
    · rw [wipe_set e]
    · have e' : i = v := by
        rcases List.mem_cons.mp h with z | z
        · exact z
        · exact (e z).elim
      subst e'
      rw [wipe_out' e, List.set_set]
theorem wipe_wipe {σ : L2.St} : ∀ {vs : List Nat}, L2.wipe (L2.wipe σ vs) vs = L2.wipe σ vs
  | [] => rfl
  | v :: vs => by
    have ih := wipe_wipe (σ := σ) (vs := vs)
    show (L2.wipe ((L2.wipe σ vs).set v none) vs).set v none = (L2.wipe σ vs).set v none
    by_cases e : v ∈ vs
    · rw [wipe_set e, ih]
    · rw [wipe_out' e, ih, List.set_set]
theorem gc_name {K : PySem.W.Frag} {vs : List Nat} {i : Nat} (h : i ∈ vs) : GC K vs (gName i) (gN i) := fun w M ρ x Q0 v σ H Q s r q k => k _ M w _ H q (.refl w) ⟨s.m, SlAll.put (SlotOk.of r) i s.s⟩ (wipe_set h)
theorem gcs_nil {K : PySem.W.Frag} {vs : List Nat} : GCs K vs gNil gs0 := fun w M ρ x Q0 v σ H Q s r ⟨e, q⟩ k => by
  subst e
  cases r
  exact ⟨rfl, k _ M w _ H q (.refl w) s rfl⟩
theorem gcs_cons {K : PySem.W.Frag} {vs : List Nat} {g : L2.TG} {t : DTG} {gs : L2.TGs} {ts : DTGs} (h1 : GC K vs g t) (h2 : GCs K vs gs ts) : GCs K vs (gCons g gs) (gsC t ts) := fun w M ρ x Q0 v σ H Q s r ⟨d, l, e, q⟩ k => by
  subst e
  cases r with
  | cons q1 r =>
    exact ⟨_, _, rfl, h1 w M ρ (.val d) _ _ σ H _ s q1 q fun ρ' M' w' σ' H' q' l' s' e' => h2 w' M' ρ' l Q0 _ σ' H' Q s' (RpAll.mono l'.s r) q' fun ρ2 M2 w2 σ2 H2 q2 l2 s2 e2 => k ρ2 M2 w2 σ2 H2 q2 (l'.trans l2) s2 (e2.trans e')⟩
theorem gc_tup {K : PySem.W.Frag} {vs : List Nat} {n : Nat} {gs : L2.TGs} {ts : DTGs} (h : GCs K vs gs ts) : GC K vs (gTup K n gs) (gT n ts) := fun w M ρ x Q0 v σ H Q s r q k => by
  obtain ⟨ds, rfl, e, q⟩ := gT_elim q
  cases r with
  | tup q1 r => exact ⟨_, _, rfl, SqT.mono s.m.sub q1, by rw [← e]; exact RpAll.length r, h w M ρ ds Q0 _ σ H Q s r q k⟩
def asV (y : DV) (k : PyData → Prop) : Prop := match y with
  | .val d => k d
  | _ => False
theorem asV_elim {y : DV} {k : PyData → Prop} (h : asV y k) : ∃ d, y = .val d ∧ k d := by
  cases y with
  | val d => exact ⟨d, rfl, h⟩
  | ref i => exact h.elim
  | raw v _ => exact h.elim
  | no => exact h.elim
/-- the turns of a list comprehension: what is made so far -/
def lcL (t : DTG) (tt : DTT) (te : DTE) (ρ : Sl) (C : Mem → Prop) (Q : List PyData → Mem → Prop) : List DV → List PyData → Mem → Prop
  | [], acc, M => C M ∧ Q acc M
  | x :: xs, acc, M => C M ∧ t x ρ M fun ρ2 M2 => tt ρ2 M2 (fun b M3 => if b = true then te ρ2 M3 (fun y M4 => asV y fun d => acc.length < sizeLine ∧ lcL t tt te ρ C Q xs (acc ++ [d]) M4) (fun _ _ => False) else lcL t tt te ρ C Q xs acc M3) fun _ _ => False
def dLc (ti : DTI) (t : DTG) (tt : DTT) (te : DTE) (vs : List Nat) : DTE := fun ρ M Q E => ti ρ M (fun is C M1 => lcL t tt te (wipeD ρ vs) C (fun acc M2 => Q (.val (.list acc)) M2) is [] M1) E
def dLcM (ti : DTI) (t : DTG) (tt : DTT) (te : DTE) (vs : List Nat) : DTE := fun ρ M Q E => ti ρ M (fun is C M1 => lcL t tt te (wipeD ρ vs) C (fun acc M2 => Q (.ref M2.length) (M2 ++ [.lst acc])) is [] M1) E
def W0 : WX := fun _ _ _ _ => False
def dYes : DTT := fun _ M Q _ => Q true M
theorem lc_lift {K : PySem.W.Frag} {ti : DTI} {g : L2.TG} {t : DTG} {tt : DTT} {te : DTE} {vs : List Nat} (hg : GC K vs g t) (σ : L2.St) (H : Hp) (Q : VK) {fin : List PyData → Mem → DQ → Prop}
    (hf : ∀ w w1 M1 H1 D xs acc Q0, KOk K w Q0 Q → w.Le w1 → SatM K (w1.hide D xs) M1 H1 → (∀ p ∈ w1.hd, p.1 ≠ D) → RpAll K w1.S xs acc → fin acc M1 Q0 → Q (.ref D) H1)
    (h : liftE K W (fun ρ M Q E => ti ρ M (fun is C M1 => lcL t tt te (wipeD ρ vs) C (fun acc M2 => fin acc M2 Q) is [] M1) E) σ H Q) : tLc (liftI K W ti) g (liftT K W0 tt) (liftE K W0 te) vs σ H Q := by
  obtain ⟨w, M, ρ, Q0, E0, s, h, k, xo⟩ := h
  refine ⟨w, M, ρ, _, E0, s, h, fun is C M1 w1 H1 J h1 l1 s1 c1 gd D hD => ?_, xo⟩
  have hw : ∀ p ∈ w1.hd, p.1 ≠ D := fun p hp z => by
    have e := (s1.hid p hp).1
    rw [z, hD] at e; cases e
  have sl1 : SlAll K w1 (L2.wipe σ vs) (wipeD ρ vs) := (s.s.mono l1).wipe vs
  -- the invariant
  refine ⟨fun i m H => i ≤ is.length ∧ m = is.length - i ∧ ∃ w' M' xs acc, w1.Le w' ∧ SatM K (w'.hide D xs) M' H ∧ RpAll K w'.S xs acc ∧ lcL t tt te (wipeD ρ vs) C (fun acc M2 => fin acc M2 Q0) (is.drop i) acc M',
    ⟨_, Nat.zero_le _, rfl, w1, M1, [], [], .refl w1, s1.hide hD [], .nil, by rw [List.drop_zero]; exact h1⟩, ?_⟩
  rintro i m H' ⟨hi, rfl, w', M', xs, acc, l', s', r', f⟩
  have hw' : ∀ p ∈ w'.hd, p.1 ≠ D := fun p hp => hw p (by rw [← l'.h]; exact hp)
  have l0 : w1.Le0 (w'.hide D xs) := ⟨l'.s, l'.a⟩
  by_cases e : i < is.length
  · have ed : is.drop i = is[i] :: is.drop (i + 1) := List.drop_eq_getElem_cons e
    rw [ed] at f
    obtain ⟨c, f⟩ := f
    obtain ⟨_, g2⟩ := gd _ M' H' l0 s' c
    obtain ⟨q1, q2⟩ := g2 i is[i] (List.getElem?_eq_getElem e)
    refine .inr ⟨q1, fun H => ∃ w' M' xs acc, w1.Le w' ∧ SatM K (w'.hide D xs) M' H ∧ RpAll K w'.S xs acc ∧ lcL t tt te (wipeD ρ vs) C (fun acc M2 => fin acc M2 Q0) (is.drop (i + 1)) acc M', fun H2 z => ⟨_, by omega, e, rfl, z⟩, fun v H2 y => ?_⟩
    obtain ⟨w2, l2, s2, rv⟩ := q2 v H2 y
    have slw : SlAll K w2 (L2.wipe σ vs) (wipeD ρ vs) := ((sl1.mono l').hd ((D, .lst xs) :: w'.hd)).mono l2
    refine hg w2 M' (wipeD ρ vs) _ _ v _ H2 _ ⟨s2, slw⟩ rv f fun ρ3 M3 w3 σ3 H3 f3 l3 s3 e3 => ⟨by rw [e3]; exact wipe_wipe, ?_⟩
    refine ⟨w3, M3, ρ3, _, _, s3, f3, fun b M4 w4 H4 f4 l4 s4 => ?_, fun _ _ _ _ _ _ z => z.elim⟩
    have fin : ∀ {w5 : Wd} {M5 : Mem} {H5 : Hp}, w4.Le w5 → SatM K w5 M5 H5 → w5 = (⟨w5.S, w5.ad, w'.hd⟩ : Wd).hide D xs ∧ w1.Le ⟨w5.S, w5.ad, w'.hd⟩ ∧ (∀ a o, w'.S a = some o → w5.S a = some o) := fun {w5 M5 H5} l5 s5 => by
      have l25 := l2.trans (l3.trans (l4.trans l5))
      obtain ⟨z1, z2⟩ := l25.un
      exact ⟨z1, l'.trans z2, l25.s⟩
    cases b with
    | true =>
      rw [if_pos rfl] at f4
      refine iteT ⟨w4, M4, ρ3, _, _, ⟨s4, s3.s.mono l4⟩, f4, fun y M5 w5 v5 H5 f5 l5 s5 r5 => ?_, fun _ _ _ _ _ _ z => z.elim⟩
      obtain ⟨d, rfl, h6, f6⟩ := asV_elim f5
      obtain ⟨z1, z2, z3⟩ := fin l5 s5
      rw [z1] at s5
      have hd5 := s5.hidden.1
      refine ⟨xs, hd5, by rw [RpAll.length r']; exact h6, ⟨w5.S, w5.ad, w'.hd⟩, M5, xs ++ [v5], acc ++ [d], z2, s5.rehide hw' _, RpAll.append (RpAll.mono z3 r') (.cons r5 .nil), f6⟩
    | false =>
      rw [if_neg Bool.false_ne_true] at f4
      obtain ⟨z1, z2, z3⟩ := fin (.refl w4) s4
      rw [z1] at s4
      exact iteF ⟨⟨w4.S, w4.ad, w'.hd⟩, M4, xs, acc, z2, s4, RpAll.mono z3 r', f4⟩
  · have e' : i = is.length := by omega
    subst e'
    rw [List.drop_length] at f
    exact .inl ⟨(gd _ M' H' l0 s' f.1).1 _ (Nat.le_refl _), hf w w' M' H' D xs acc Q0 k (l1.trans l') s' hw' r' f.2⟩
theorem PTs.imp {X : Cx} {ifs : List Expr} {t t' : TT} (h : PTs X ifs t) (i : ∀ σ H Q, t' σ H Q → t σ H Q) : PTs X ifs t' := ⟨fun pins s σ H Q I q => h.run pins s σ H Q I (i _ _ _ q)⟩
def DTs (X : Cx) (ifs : List Expr) (t : DTT) : Prop := PTs X ifs (liftT X.K W0 t)
theorem dts_nil : DTs X [] dYes := PTs.imp pts_nil fun σ H Q ⟨w, M, ρ, Q0, E0, s, h, k, _⟩ => k _ M w H h (.refl w) s.m
theorem dts_one {c : Expr} {t : DTT} (h : DT X W0 c t) : DTs X [c] t := pts_one h
theorem lcS {K : PySem.W.Frag} {Q : VK} : ∀ w w1 M1 H1 D xs acc Q0, KOk K w Q0 Q → w.Le w1 → SatM K (w1.hide D xs) M1 H1 → (∀ p ∈ w1.hd, p.1 ≠ D) → RpAll K w1.S xs acc → (fun (acc : List PyData) (M2 : Mem) (Q : DQ) => Q (.val (.list acc)) M2) acc M1 Q0 → Q (.ref D) H1 :=
  fun w w1 M1 H1 D xs acc Q0 k l s hw r h => k _ _ _ _ _ h (l.trans (.more (o := .lst xs) s.hidden.2.1)) (s.showS hw) (Rp.lst (upd_same : upd w1.S D (.lst xs) D = _) (RpAll.mono (Wd.Le.more (o := .lst xs) s.hidden.2.1).s r))
theorem lcM {K : PySem.W.Frag} {Q : VK} : ∀ w w1 M1 H1 D xs acc Q0, KOk K w Q0 Q → w.Le w1 → SatM K (w1.hide D xs) M1 H1 → (∀ p ∈ w1.hd, p.1 ≠ D) → RpAll K w1.S xs acc → (fun (acc : List PyData) (M2 : Mem) (Q : DQ) => Q (.ref M2.length) (M2 ++ [.lst acc])) acc M1 Q0 → Q (.ref D) H1 :=
  fun w w1 M1 H1 D xs acc Q0 k l s hw r h => k _ _ _ _ _ h (l.trans .push) (s.showM hw r) ⟨D, [], by show (w1.ad ++ [[D]])[M1.length]? = some [D]; rw [← s.bare.len]; simp, rfl⟩
variable {elt iter : Expr} {ifs : List Expr} {scope : Scope} {own : List (Str × Nat)} {ti : DTI} {g : L2.TG} {t : DTG} {tt : DTT} {te : DTE}
theorem de_lc (hc : X.calm = true) (hN : X.N.Nodup) (hi : DI X W tg iter ti) (ok : BlkOk X.N X.env.scope scope own) (gc : GC X.K (own.map (·.2)) g t)
    (hg : ∀ (s : Shared) (H : Hp) (C : Addr) (cl : List (Str × Addr)) (fp : List Addr), PG (X.blk s H scope (compEnvC scope cl C X.env) fp) tg g) (ht : ∀ (s : Shared) (H : Hp) (C : Addr) (cl : List (Str × Addr)) (fp : List Addr), DTs (X.blk s H scope (compEnvC scope cl C X.env) fp) ifs tt)
    (he : ∀ (s : Shared) (H : Hp) (C : Addr) (cl : List (Str × Addr)) (fp : List Addr), DE (X.blk s H scope (compEnvC scope cl C X.env) fp) W0 elt te) (hs : ∀ x, foldedSetIterable iter X.env x = pure x := by intro _; rfl) :
    DE X W (.ListComp elt [⟨tg, iter, ifs, 0⟩] scope pos) (dLc ti t tt te (own.map (·.2))) := PE.imp (pe_lc (tt := liftT X.K W0 tt) (te := liftE X.K W0 te) hc hN hi ok hg ht he hs) fun σ H Q h => lc_lift gc σ H Q lcS h
theorem de_lcM (hc : X.calm = true) (hN : X.N.Nodup) (hi : DI X W tg iter ti) (ok : BlkOk X.N X.env.scope scope own) (gc : GC X.K (own.map (·.2)) g t)
    (hg : ∀ (s : Shared) (H : Hp) (C : Addr) (cl : List (Str × Addr)) (fp : List Addr), PG (X.blk s H scope (compEnvC scope cl C X.env) fp) tg g) (ht : ∀ (s : Shared) (H : Hp) (C : Addr) (cl : List (Str × Addr)) (fp : List Addr), DTs (X.blk s H scope (compEnvC scope cl C X.env) fp) ifs tt)
    (he : ∀ (s : Shared) (H : Hp) (C : Addr) (cl : List (Str × Addr)) (fp : List Addr), DE (X.blk s H scope (compEnvC scope cl C X.env) fp) W0 elt te) (hs : ∀ x, foldedSetIterable iter X.env x = pure x := by intro _; rfl) :
    DE X W (.ListComp elt [⟨tg, iter, ifs, 0⟩] scope pos) (dLcM ti t tt te (own.map (·.2))) := PE.imp (pe_lc (tt := liftT X.K W0 tt) (te := liftE X.K W0 te) hc hN hi ok hg ht he hs) fun σ H Q h => lc_lift gc σ H Q lcM h
/-- y = [..] -/
theorem asg_lift {K : PySem.W.Frag} {i : Nat} {te : DTE} {r : TE} (h : ∀ σ H Q, liftE K W te σ H Q → r σ H Q) (D : Ends) (σ : L2.St) (H : Hp) (q : liftS K W (dAsg te (gN i)) D σ H) : tAsg r (gName i) D σ H := by
  obtain ⟨w, M, ρ, D0, s, hh, k⟩ := q
  exact h _ _ _ ⟨w, M, ρ, _, _, s, hh, fun d1 M1 w1 v1 H1 h1 l1 s1 r1 => k.nx _ M1 w1 _ H1 h1 l1 ⟨s1, SlAll.put (SlotOk.of r1) i (s.s.mono l1)⟩, k.xok s.s⟩
theorem ds_setLc (i : Nat) {y : Str} {py spos : Pos} (hc : X.calm = true) (hN : X.N.Nodup) (hi : DI X W tg iter ti) (ok : BlkOk X.N X.env.scope scope own) (gc : GC X.K (own.map (·.2)) g t)
    (hg : ∀ (s : Shared) (H : Hp) (C : Addr) (cl : List (Str × Addr)) (fp : List Addr), PG (X.blk s H scope (compEnvC scope cl C X.env) fp) tg g) (ht : ∀ (s : Shared) (H : Hp) (C : Addr) (cl : List (Str × Addr)) (fp : List Addr), DTs (X.blk s H scope (compEnvC scope cl C X.env) fp) ifs tt)
    (he : ∀ (s : Shared) (H : Hp) (C : Addr) (cl : List (Str × Addr)) (fp : List Addr), DE (X.blk s H scope (compEnvC scope cl C X.env) fp) W0 elt te)
    (hsw : swapsWith (.ListComp elt [⟨tg, iter, ifs, 0⟩] scope pos) (some (.Name y py)) spos.line X.env = pure true) (hy : X.N[i]? = some y := by rfl) (hyl : X.env.scope.names.lookup y = some .local := by rfl) (hs : ∀ x, foldedSetIterable iter X.env x = pure x := by intro _; rfl) :
    DS X W (.Assign [.Name y py] (.ListComp elt [⟨tg, iter, ifs, 0⟩] scope pos) spos) (dAsg (dLc ti t tt te (own.map (·.2))) (gN i)) :=
  PS.imp (ps_setLc (tt := liftT X.K W0 tt) (te := liftE X.K W0 te) hc hN hy hyl hsw hi ok hg ht he hs) fun D σ H q => asg_lift (fun σ H Q h => lc_lift gc σ H Q lcS h) D σ H q
theorem ds_setLcM (i : Nat) {y : Str} {py spos : Pos} (hc : X.calm = true) (hN : X.N.Nodup) (hi : DI X W tg iter ti) (ok : BlkOk X.N X.env.scope scope own) (gc : GC X.K (own.map (·.2)) g t)
    (hg : ∀ (s : Shared) (H : Hp) (C : Addr) (cl : List (Str × Addr)) (fp : List Addr), PG (X.blk s H scope (compEnvC scope cl C X.env) fp) tg g) (ht : ∀ (s : Shared) (H : Hp) (C : Addr) (cl : List (Str × Addr)) (fp : List Addr), DTs (X.blk s H scope (compEnvC scope cl C X.env) fp) ifs tt)
    (he : ∀ (s : Shared) (H : Hp) (C : Addr) (cl : List (Str × Addr)) (fp : List Addr), DE (X.blk s H scope (compEnvC scope cl C X.env) fp) W0 elt te)
    (hsw : swapsWith (.ListComp elt [⟨tg, iter, ifs, 0⟩] scope pos) (some (.Name y py)) spos.line X.env = pure true) (hy : X.N[i]? = some y := by rfl) (hyl : X.env.scope.names.lookup y = some .local := by rfl) (hs : ∀ x, foldedSetIterable iter X.env x = pure x := by intro _; rfl) :
    DS X W (.Assign [.Name y py] (.ListComp elt [⟨tg, iter, ifs, 0⟩] scope pos) spos) (dAsg (dLcM ti t tt te (own.map (·.2))) (gN i)) :=
  PS.imp (ps_setLc (tt := liftT X.K W0 tt) (te := liftE X.K W0 te) hc hN hy hyl hsw hi ok hg ht he hs) fun D σ H q => asg_lift (fun σ H Q h => lc_lift gc σ H Q lcM h) D σ H q
/-! ### mutable lists -/
/-- xs.append(e) as a statement -/
def dAppend (to te : DTE) : DTE := fun ρ M Q E => to ρ M (fun o M1 => te ρ M1 (fun y M2 => asV y fun d => match o with
  | .ref i => match mem M2 i with
    | .lst ds => ds.length < sizeLine ∧ Q (.val .none) (mput M2 i (.lst (ds ++ [d])))
    | _ => False
  | _ => False) E) E
theorem lst_at {M : Mem} {o : DV} {k : Nat → List PyData → Prop} (h : match o with
  | .ref i => match mem M i with
    | .lst ds => k i ds
    | _ => False
  | _ => False) : ∃ i ds, o = .ref i ∧ mem M i = .lst ds ∧ k i ds := by
  cases o with
  | val d => exact h.elim
  | raw v _ => exact h.elim
  | no => exact h.elim
  | ref i =>
    cases hm : mem M i with
    | gone => simp only [hm] at h
    | res φ => simp only [hm] at h
    | lst ds => simp only [hm] at h; exact ⟨i, ds, rfl, hm, h⟩
end
end DL

set_option Elab.async false
set_option linter.all false
set_option maxRecDepth 100000
set_option maxHeartbeats 4000000
namespace DL
open PySem PySem.Spec PyProof.Rows L2

/-! ### mutable lists -/
def onL (M : Mem) (o : DV) (k : Nat → List PyData → Prop) : Prop := match o with
  | .ref i => match mem M i with
    | .lst ds => k i ds
    | _ => False
  | _ => False
theorem onL_elim {M : Mem} {o : DV} {k : Nat → List PyData → Prop} (h : onL M o k) : ∃ i ds, o = .ref i ∧ mem M i = .lst ds ∧ k i ds := lst_at h
/-- a method of a mutable list: F tells, of what it holds and the arguments, the answer and what it holds behind it -/
def dMl (F : List PyData → List PyData → (PyData → List PyData → Prop) → Prop) (to : DTE) (t : DTA) : DTE := fun ρ M Q E => to ρ M (fun o M1 => onL M1 o fun _ _ => t ρ M1 (fun ys M2 => onL M2 o fun i ds => vals ys fun es => F ds es fun r ds' => Q (.val r) (mput M2 i (.lst ds'))) E) E
def MlR (K : PySem.W.Frag) (r : V → List V → Hp → VK → Prop) (F : List PyData → List PyData → (PyData → List PyData → Prop) → Prop) : Prop :=
  ∀ (S : Hp) p xs ds vs es H k (Q : VK), H p = some (.lst xs) → (∀ a o, S a = some o → H a = some o) → RpAll K S xs ds → RpAll K S vs es → F ds es k → (∀ r ds' vr xs', k r ds' → Rp K S vr r → RpAll K S xs' ds' → Q vr (upd H p (.lst xs'))) → r (.ref p) vs H Q
section
variable {X : Cx} {W : WX} {pos apos cpos : Pos} {o e : Expr} {es : List Expr} {to : DTE} {t : DTA} {name : Str} {bid : String} {r : V → List V → Hp → VK → Prop} {F : List PyData → List PyData → (PyData → List PyData → Prop) → Prop}
theorem ml_lift {K : PySem.W.Frag} (hF : MlR K r F) (σ : L2.St) (H : Hp) (Q : VK) (h : liftE K W (dMl F to t) σ H Q) : tBM K "list" r (liftE K W to) (liftA K W t) σ H Q := by
  obtain ⟨w, M, ρ, Q0, E0, s, h, k, xo⟩ := h
  refine ⟨w, M, ρ, _, E0, s, h, fun d1 M1 w1 v1 H1 h1 l1 s1 r1 => ?_, xo⟩
  obtain ⟨i, ds, rfl, hm, h2⟩ := onL_elim h1
  obtain ⟨p, xs, rfl, e, q1, q2⟩ := s1.at hm r1
  refine ⟨.inl ⟨rfl, _, SqL.of q1⟩, w1, M1, ρ, _, E0, ⟨s1, s.s.mono l1⟩, h2, fun d2 M2 w2 v2 H2 h3 l2 s2 r2 => ?_, xo.le l1⟩
  obtain ⟨i', ds', e1, hm', h4⟩ := onL_elim h3
  cases e1
  obtain ⟨es, e2, h5⟩ := vals_elim r2 h4
  obtain ⟨p', xs', e3, e4, q3, q4⟩ := s2.at hm' (RelDV.mono l2 r1)
  cases e3
  exact hF w2.S p xs' ds' v2 es H2 _ Q q3 s2.sub q4 e2 h5 fun r ds2 vr xs2 z1 z2 z3 => k _ _ w2 vr _ z1 (l1.trans l2) (s2.set hm' e4 z3) z2
theorem de_ml (pa : PlainAttrs "list") (slot : Slot "list" name bid) (hty : typeOf (.builtin bid) = pure (.type "method_descriptor")) (hm : MtR X bid r) (hF : MlR X.K r F) (ho : DE X W o to) (ha : DA X W (e :: es) t)
    (hbase : attributeBase o name X.env (eval o X.env) = eval o X.env := by rfl)
    (hfew : ((backTo cpos (starEach (e :: es) X.env)).all (fun x => !x.1) && (backToKw cpos (keywordEach [] X.env)).all (fun x => x.1.isSome)
      && decide ((e :: es).length + ([] : List Keyword).length + (if ([] : List Keyword).isEmpty then 0 else 1) < 30)) = true := by rfl)
    (hline : (apos.endLine == cpos.line) = true := by rfl) (hs : starEach (e :: es) X.env = (false, eval e X.env) :: starEach es X.env := by rfl) (hplain : (backTo cpos (starEach es X.env)).any (·.1) = false := by rfl) :
    DE X W (.Call (.Attribute o name apos) (e :: es) [] cpos) (dMl F to t) := PE.imp (pe_bm pa slot hty hm ho ha hbase hfew hline hs hplain) fun σ H Q h => ml_lift hF σ H Q h
/-! its methods -/
def pAppend : List PyData → List PyData → (PyData → List PyData → Prop) → Prop
  | ds, [e], k => ds.length < sizeLine ∧ k .none (ds ++ [e])
  | _, _, _ => False
theorem ml_append {K : PySem.W.Frag} : MlR K rAppend pAppend := fun S p xs ds vs es H k Q hp _ rx rv f q => by
  match es, rv, f with
  | [e], .cons r1 .nil, f =>
    exact ⟨p, xs, _, rfl, rfl, hp, by rw [RpAll.length rx]; exact f.1, q _ _ _ _ f.2 .non (RpAll.append rx (.cons r1 .nil))⟩
theorem de_append (ho : DE X W o to) (ha : DA X W [e] t) (hbase : attributeBase o "append" X.env (eval o X.env) = eval o X.env := by rfl)
    (hfew : ((backTo cpos (starEach [e] X.env)).all (fun x => !x.1) && (backToKw cpos (keywordEach [] X.env)).all (fun x => x.1.isSome)
      && decide (([e] : List Expr).length + ([] : List Keyword).length + (if ([] : List Keyword).isEmpty then 0 else 1) < 30)) = true := by rfl)
    (hline : (apos.endLine == cpos.line) = true := by rfl) (hs : starEach [e] X.env = (false, eval e X.env) :: starEach [] X.env := by rfl) (hplain : (backTo cpos (starEach [] X.env)).any (·.1) = false := by rfl) :
    DE X W (.Call (.Attribute o "append" apos) [e] [] cpos) (dMl pAppend to t) := de_ml PySem.F.plainAttrs_list PySem.F.slot_list_append PySem.F.type_list_append mt_append ml_append ho ha hbase hfew hline hs hplain
def pExtend : List PyData → List PyData → (PyData → List PyData → Prop) → Prop
  | ds, [.list es], k => ds.length + es.length ≤ sizeLine ∧ k .none (ds ++ es)
  | _, _, _ => False
theorem ml_extend {K : PySem.W.Frag} : MlR K rExtend pExtend := fun S p xs ds vs es H k Q hp sub rx rv f q => by
  match es, rv, f with
  | [.list es], .cons (.lst h1 r1) .nil, f =>
    exact ⟨p, _, xs, _, rfl, rfl, hp, sub _ _ h1, by rw [RpAll.length rx, RpAll.length r1]; exact f.1, q _ _ _ _ f.2 .non (RpAll.append rx r1)⟩
theorem de_extend (ho : DE X W o to) (ha : DA X W [e] t) (hbase : attributeBase o "extend" X.env (eval o X.env) = eval o X.env := by rfl)
    (hfew : ((backTo cpos (starEach [e] X.env)).all (fun x => !x.1) && (backToKw cpos (keywordEach [] X.env)).all (fun x => x.1.isSome)
      && decide (([e] : List Expr).length + ([] : List Keyword).length + (if ([] : List Keyword).isEmpty then 0 else 1) < 30)) = true := by rfl)
    (hline : (apos.endLine == cpos.line) = true := by rfl) (hs : starEach [e] X.env = (false, eval e X.env) :: starEach [] X.env := by rfl) (hplain : (backTo cpos (starEach [] X.env)).any (·.1) = false := by rfl) :
    DE X W (.Call (.Attribute o "extend" apos) [e] [] cpos) (dMl pExtend to t) := de_ml PySem.F.plainAttrs_list PySem.F.slot_list_extend PySem.F.type_list_extend mt_extend ml_extend ho ha hbase hfew hline hs hplain
def pPopAt : List PyData → List PyData → (PyData → List PyData → Prop) → Prop
  | ds, [.int i], k => -(2 ^ 63) ≤ i ∧ i < 2 ^ 63 ∧ ∃ j d, seqIndex? i ds.length = some j ∧ ds[j]? = some d ∧ k d (ds.eraseIdx j)
  | _, _, _ => False
theorem ml_popAt {K : PySem.W.Frag} : MlR K rPopAt pPopAt := fun S p xs ds vs es H k Q hp sub rx rv f q => by
  match es, rv, f with
  | [.int i], .cons (.int _) .nil, ⟨f1, f2, j, d, f3, f4, f5⟩ =>
    obtain ⟨v, e1, e2⟩ := RpAll.get rx f4
    exact ⟨p, xs, i, j, v, rfl, rfl, hp, f1, f2, by rw [RpAll.length rx]; exact f3, e1, q _ _ _ _ f5 e2 (RpAll.eraseIdx j rx)⟩
theorem de_popAt (ho : DE X W o to) (ha : DA X W [e] t) (hbase : attributeBase o "pop" X.env (eval o X.env) = eval o X.env := by rfl)
    (hfew : ((backTo cpos (starEach [e] X.env)).all (fun x => !x.1) && (backToKw cpos (keywordEach [] X.env)).all (fun x => x.1.isSome)
      && decide (([e] : List Expr).length + ([] : List Keyword).length + (if ([] : List Keyword).isEmpty then 0 else 1) < 30)) = true := by rfl)
    (hline : (apos.endLine == cpos.line) = true := by rfl) (hs : starEach [e] X.env = (false, eval e X.env) :: starEach [] X.env := by rfl) (hplain : (backTo cpos (starEach [] X.env)).any (·.1) = false := by rfl) :
    DE X W (.Call (.Attribute o "pop" apos) [e] [] cpos) (dMl pPopAt to t) := de_ml PySem.F.plainAttrs_list PySem.F.slot_list_pop PySem.F.type_list_pop mt_popAt ml_popAt ho ha hbase hfew hline hs hplain
/-- xs[i] = .. -/
def gSubL (to ti : DTE) : DTG := fun x ρ M Q => to ρ M (fun o M1 => ti ρ M1 (fun iv M2 => asI iv fun k => onL M2 o fun i ds => asV x fun d => ∃ j, ixN ds.length k = some j ∧ Q ρ (mput M2 i (.lst (ds.set j d)))) fun _ _ => False) fun _ _ => False
theorem dg_sub {i : Expr} {ti : DTE} (ho : DE X W0 o to) (hi : DE X W0 i ti)
    (ha : ∀ v, assign (.Subscript o i pos) X.env v = (do
      let ov ← holding [v] (eval o X.env)
      let iv ← holding [v, ov] (eval i X.env)
      standAt pos
      holding [v, ov, iv] (setItem ov iv v)
      release [v, ov, iv] []) := by intro _; rfl) : DG X (.Subscript o i pos) (gSubL to ti) := PG.imp (pg_sub ho hi set_list ha) fun v σ H Q ⟨w, M, ρ, x, Q0, s, rx, h, k⟩ => by
  refine ⟨w, M, ρ, _, _, s, h, fun d1 M1 w1 v1 H1 h1 l1 s1 r1 => ?_, fun _ _ _ _ _ _ z => z.elim⟩
  refine ⟨w1, M1, ρ, _, _, ⟨s1, s.s.mono l1⟩, h1, fun d2 M2 w2 v2 H2 h2 l2 s2 r2 => ?_, fun _ _ _ _ _ _ z => z.elim⟩
  obtain ⟨z, rfl, rfl, h3⟩ := int_of r2 h2
  obtain ⟨j, ds, rfl, hm, h4⟩ := onL_elim h3
  obtain ⟨d, rfl, m, h5, h6⟩ := asV_elim h4
  obtain ⟨p, xs, rfl, e, q1, q2⟩ := s2.at hm (RelDV.mono l2 r1)
  have l := l1.trans l2
  exact ⟨p, xs, z, m, rfl, rfl, q1, by rw [RpAll.length q2]; exact h5, k _ _ w2 σ _ h6 l ⟨s2.set hm e (RpAll.set (Rp.mono l.s rx) m q2), s.s.mono l⟩⟩
/-- a mutable list is handed on for good: from now on it is stable -/
def dFz (te : DTE) : DTE := fun ρ M Q E => te ρ M (fun x M1 => onL M1 x fun i ds => Q (.val (.list ds)) (mput M1 i .gone)) E
theorem de_fz {te : DTE} (h : DE X W e te) : DE X W e (dFz te) := PE.imp h fun σ H Q ⟨w, M, ρ, Q0, E0, s, h, k, xo⟩ =>
  ⟨w, M, ρ, _, E0, s, h, fun d1 M1 w1 v1 H1 h1 l1 s1 r1 => by
    obtain ⟨i, ds, rfl, hm, h2⟩ := onL_elim h1
    obtain ⟨p, xs, rfl, e, q1, q2⟩ := s1.at hm r1
    have hS : w1.S p = none := (s1.own i _ e (by rw [hm]; rfl) p (by simp)).1
    exact k _ _ _ _ _ h2 (l1.trans (.more (o := .lst xs) hS)) (s1.freeze hm e q1) (Rp.lst (upd_same : upd w1.S p (.lst xs) p = _) (RpAll.mono (Wd.Le.more (o := .lst xs) hS).s q2)), xo⟩

/-! ### raise, try -/
def liftM (K : PySem.W.Frag) (W : WX) (t : Sl → Mem → DX → Prop) (σ : L2.St) (H : Hp) (Q : XK) : Prop := ∃ w M ρ E0, Sat K w M ρ σ H ∧ t ρ M E0 ∧ XOkE K w E0 Q
/-- an exception is made -/
def DMk (X : Cx) (e : Expr) (t : Sl → Mem → DX → Prop) : Prop := PMk X e (liftM X.K W0 t)
def dRaise (t : Sl → Mem → DX → Prop) : DTS := fun D ρ M => t ρ M fun x M' => D.ex x ρ M'
theorem ds_raise {t : Sl → Mem → DX → Prop} (hc : X.calm = true) (tk : Takes X W) (he : DMk X e t) : DS X W (.Raise (some e) none pos) (dRaise t) := PS.imp (ps_raise hc tk he) fun D σ H ⟨w, M, ρ, D0, s, h, k⟩ =>
  ⟨w, M, ρ, _, s, h, fun x M' w' H' cls d q l s' r => k.ex x ρ M' w' σ H' cls d q l ⟨s', s.s.mono l⟩ r⟩
end
end DL

set_option Elab.async false
set_option linter.all false
set_option maxRecDepth 100000
set_option maxHeartbeats 4000000
namespace DL
open PySem PySem.Spec PyProof.Rows L2
theorem u64 {A : Around} {k : Nat} (hr : Room k A) : A.units + 64 < cLine := hr.units
theorem u65 {A : Around} {k : Nat} (hr : Room k A) : A.units + 65 < cLine := by have := hr.un; omega
theorem boot_is_int : bootBuiltins "int" = some (.type BT.int.nm) := by decide +kernel
theorem boot_is_bool : bootBuiltins "bool" = some (.type BT.bool.nm) := by decide +kernel
theorem boot_is_str : bootBuiltins "str" = some (.type BT.str.nm) := by decide +kernel
theorem boot_is_tuple : bootBuiltins "tuple" = some (.type BT.tuple.nm) := by decide +kernel
theorem boot_is_list : bootBuiltins "list" = some (.type BT.list.nm) := by decide +kernel
end DL

set_option Elab.async false
set_option linter.all false
set_option maxRecDepth 100000
set_option maxHeartbeats 4000000
/-! own errors over an own base over ValueError, their __init__ being: super().__init__(a text + str(n)); self.f = n -/
namespace DLX
open PySem PySem.W PySem.Calls PyProof.Rows PySem.HandSPX
def iA (fld : Str) (p1 p2 : Pos) : Arguments := { posonlyargs := [], args := [{ arg := "self", annotation := none, pos := p1 }, { arg := fld, annotation := none, pos := p2 }], vararg := none, kwonlyargs := [], kw_defaults := [], kwarg := none, defaults := [] }
def iB (msg fld : Str) (q0 q1 q2 q3 q4 q5 q6 q7 q8 q9 r0 r1 r2 r3 : Pos) : List Stmt :=
  [.Expr (.Call (.Attribute (.Call (.Name "super" q0) [] [] q1) "__init__" q2) [.BinOp (.Constant (.str msg) 0 q3) .Add (.Call (.Name "str" q4) [.Name fld q5] [] q6) q7] [] q8) q9,
   .Assign [.Attribute (.Name "self" r0) fld r1] (.Name fld r2) r3]
def iS (fld : Str) : Scope := { kind := .function, names := [(PySem.Str.ofString "self", .local), (fld, .local), (PySem.Str.ofString "__class__", .free), (PySem.Str.ofString "super", .globalImplicit), (PySem.Str.ofString "str", .globalImplicit)], isGenerator := false, isCoroutine := false, more := [] }
/-- what the written part says of the class at C and of its __init__ -/
structure ITxt (prog : Program) (K : Frag) (fld msg qual : Str) (C fI : Addr) : Prop where
  cls : ∃ nm q N bs bm sn sub ab col dd k0 k1 k2 k3 k5, K.lookup C = some (excClassObj nm q C N bs bm true sn sub ab col dd k0 k1 k2 k3 k5 "ValueError.__new__") ∧ refsVE bm = true ∧ alongIn K "__init__" (((Value.ref C :: bm).dropWhile (· != .ref C)).drop 1) = some (some (.builtin "ValueError.__init__"))
  mroC : mroIn K C (.ref C) = some true
  sa : findIn K (.ref C) "__setattr__" = some (some (.builtin "object.__setattr__"))
  noF : findIn K (.ref C) fld = some none
  iC : findIn K (.ref C) "__init__" = some (some (.ref fI))
  tC : typeIn K (.ref fI) = some (.type "function")
  kC : keepIn K (.ref C) = true
  exC : subIn K (.ref C) (.type "BaseException") = some true
  vaC : subIn K (.ref C) (.type "ValueError") = some true
  tyC : typeIn K (.ref C) = some (.type "type")
  op : nsIn K cStatics "thirdparty.any" = some none
  fn : ∃ (oc : Value) (od : Option Addr) (dV kV doc pm : Value) (an : Option Addr) (cda cc : Addr) (ct : Value) (osl : Array (Option Value)) (p1 p2 q0 q1 q2 q3 q4 q5 q6 q7 q8 q9 r0 r1 r2 r3 : Pos) (ccl : Value) (cdd : Option Addr) (vs : Array Value) (ccs : Array (Option Value)) (file : Str) (tf : Tok) (cl : Value) (cld : Option Addr) (csl : Array (Option Value)),
    K.lookup fI = some ⟨oc, od, .func (ksFn "__init__" qual (iA fld p1 p2) (iB msg fld q0 q1 q2 q3 q4 q5 q6 q7 q8 q9 r0 r1 r2 r3) (iS fld) .none kV doc pm an (.ref cda) ct cc), osl⟩ ∧ codeIn K (.ref cda) qual = true ∧
    K.lookup cda = some ⟨ccl, cdd, .fields vs, ccs⟩ ∧ vs[2]? = some (.str file tf) ∧ ((prog.main.file : Str) == file) = true ∧ K.lookup cc = some ⟨cl, cld, .cell (some (.ref C)), csl⟩ ∧
    (∀ L a, ∃ pl : Sem Bool, eval (.Call (.Attribute (.Call (.Name "super" q0) [] [] q1) "__init__" q2) [.BinOp (.Constant (.str msg) 0 q3) .Add (.Call (.Name "str" q4) [.Name fld q5] [] q6) q7] [] q8) (ksEnv qual (iS fld) L a (.ref cda) cc) = (do
      let ov ← attributeBase (.Call (.Name "super" q0) [] [] q1) "__init__" (ksEnv qual (iS fld) L a (.ref cda) cc) (eval (.Call (.Name "super" q0) [] [] q1) (ksEnv qual (iS fld) L a (.ref cda) cc))
      standAt q2.atName
      let (f, first) ← holding [ov] (getMethod ov "__init__" pl)
      callWith q8 f first (backTo q8 (starEach [.BinOp (.Constant (.str msg) 0 q3) .Add (.Call (.Name "str" q4) [.Name fld q5] [] q6) q7] (ksEnv qual (iS fld) L a (.ref cda) cc))) []))
  bind : ∀ (b : List Stmt) (kV doc pm : Value) (an : Option Addr) (cdv ct : Value) (cc : Addr) (p1 p2 : Pos) (a u : Value), bindArgs (ksFn "__init__" qual (iA fld p1 p2) b (iS fld) .none kV doc pm an cdv ct cc) ⟨[a, u], []⟩ = pure [(("self" : Str), a), (fld, u)]
  sup : (prog.main.scope.names.lookup ("super" : Str)).isSome = false
  nf : ¬ fld = ("self" : Str)
  nd : (fld == ("__debug__" : Str)) = false
  nk1 : ¬ fld = ("super" : Str)
  nk2 : ¬ fld = ("str" : Str)
  nk3 : ¬ fld = ("__class__" : Str)
  ml : msg.length ≤ 1000
/-- what __init__ leaves of a fresh exception at x -/
structure InitEnd (h h' : Heap) (x C dx : Addr) (fld : Str) (v : Value) : Prop where
  keep : ∀ b o, b ≠ x → h.get? b = some o → h'.get? b = some o
  obj : ∃ t1, h'.get? x = some { cls := .ref C, dict := some dx, data := .fields #[.ref t1, .none, .none, .none, .bool false, .none] }
  dbig : h.objs.size ≤ dx
  dne : dx ≠ x
  ns : h'.Ns1 dx (fun y => if y = fld then some v else none)
section
variable {prog : Program} {w : World} {A : Around} {E : Value → Shared → Prop} {R : Result → Shared → Prop} {s : Shared} {K : Frag} {mg : Str → Option Value} {C fI : Addr} {fld msg qual : Str}
/-- the names in the body -/
theorem kind_self {fld : Str} (h : ¬ fld = ("self" : Str)) : (iS fld).names.lookup ("self" : Str) = some .local := rfl
theorem kind_fld {fld : Str} (h : ¬ fld = ("self" : Str)) : (iS fld).names.lookup fld = some .local := by
  show List.lookup fld [(("self" : Str), NameKind.local), (fld, .local), (("__class__" : Str), .free), (("super" : Str), .globalImplicit), (("str" : Str), .globalImplicit)] = some .local
  rw [List.lookup_cons, (beq_eq_false_iff_ne.mpr h : (fld == ("self" : Str)) = false), List.lookup_cons, beq_self_eq_true]
theorem kind_other {fld x : Str} (h : ¬ fld = x) (hs : (x == ("self" : Str)) = false) : (iS fld).names.lookup x = List.lookup x [(("__class__" : Str), NameKind.free), (("super" : Str), .globalImplicit), (("str" : Str), .globalImplicit)] := by
  show List.lookup x [(("self" : Str), NameKind.local), (fld, .local), (("__class__" : Str), .free), (("super" : Str), .globalImplicit), (("str" : Str), .globalImplicit)] = _
  rw [List.lookup_cons, hs, List.lookup_cons, (beq_eq_false_iff_ne.mpr (fun z => h z.symm) : (x == fld) = false)]
theorem play_init (T : ITxt prog K fld msg qual C fI) {x t0 : Addr} {i : Int} {tk : Tok} (X : K.In s.heap) (G : s.heap.Ns mainGlobals mg) (gS : mg "super" = none) (gT : mg "str" = none)
    (B : ∃ mb, s.heap.Ns builtinsNs mb ∧ ∀ x : Str, x ≠ "__name__" → mb x = bootBuiltins x) (hlim : s.heap.NoLimit) (hx : s.heap.get? x = some (excO C t0)) (hnx : K.lookup x = none) (hroom : A.depth < recursionLimit) (hi : i.natAbs.log2 < 1920)
    (hq : ∀ h' tk' dx, InitEnd s.heap h' x C dx fld (.int i tk) → R (.ok (.ret .none)) { s with heap := h', toks := tk' }) :
    codeAny (model prog w) A (.call (.ref fI) ⟨[.ref x, .int i tk], []⟩) R s := by
  obtain ⟨oc, od, dV, kV, doc, pm, an, cda, cc, ct, osl, p1, p2, q0, q1, q2, q3, q4, q5, q6, q7, q8, q9, r0, r1, r2, r3, ccl, cdd, vs, ccs, file, tf, cl, cld, csl, ho, hcd, hcode, hvs, hfile, hcell, hev⟩ := T.fn
  obtain ⟨nm, q, N, bs, bm, sn, sub, ab, col, dd, k0, k1, k2, k3, k5, hC, hbm, hal⟩ := T.cls
  have hcl : clsIn K C = some { name := nm, bases := bs, mro := .ref C :: bm, ns := N, qualname := q, hasDict := true, slotNames := sn, subclasses := sub, abstract := ab, collection := col, hasDel := false } := by unfold clsIn; rw [hC] <;> rfl
  have nfs : (fld == ("self" : Str)) = false := beq_eq_false_iff_ne.mpr T.nf
  have kf := kind_fld T.nf
  have ksup : (iS fld).names.lookup ("super" : Str) = some .globalImplicit := (kind_other T.nk1 (by decide)).trans rfl
  have kstr : (iS fld).names.lookup ("str" : Str) = some .globalImplicit := (kind_other T.nk2 (by decide)).trans rfl
  have kcls : (iS fld).names.lookup ("__class__" : Str) = some .free := (kind_other T.nk3 (by decide)).trans rfl
  refine ks_codeAny_call_defAt (fd := ksFn "__init__" qual (iA fld p1 p2) (iB msg fld q0 q1 q2 q3 q4 q5 q6 q7 q8 q9 r0 r1 r2 r3) (iS fld) .none kV doc pm an (.ref cda) ct cc) (body := iB msg fld q0 q1 q2 q3 q4 q5 q6 q7 q8 q9 r0 r1 r2 r3)
    (binds := [("self", .ref x), (fld, .int i tk)]) hroom (X _ _ ho) rfl hlim (codeRec_of X hcd) rfl (BindsTo.of_eq ?_) ?_ ?_ (fun h₁ hn hk => ?_) rfl rfl rfl
  · exact T.bind _ _ _ _ _ _ _ _ _ _ _ _
  · intro y hy
    simp only [iS, List.mem_cons, List.not_mem_nil, or_false] at hy
    rcases hy with rfl | rfl | rfl | rfl | rfl <;> intro z <;> cases z
  · intro y hy
    rcases List.mem_cons.mp hy with rfl | hy
    · rfl
    · have e : y = (fld, .int i tk) := by simpa using hy
      subst e
      exact kf
  -- the body
  have X₁ : K.In h₁ := X.keeps hk
  have G₁ : h₁.Ns mainGlobals mg := G.keeps hk
  obtain ⟨mb, Bn, Bm⟩ := B
  have B₁ : h₁.Ns builtinsNs mb := Bn.keeps hk
  have hx₁ := hk _ _ hx
  have hC₁ := X₁ _ _ hC
  obtain ⟨pl, hev⟩ := hev s.heap.objs.size fI
  refine ks_wpAt_execs_cons (ks_wpAt_Expr_any (ks_wpAt_MethodCall (pl := pl) ?_ hev))
  have ln : s.heap.objs.size < h₁.objs.size := hn.lt
  have mself : (fun y => List.lookup y ([("self", .ref x), (fld, .int i tk)] : List (Str × Value)).reverse) ("self" : Str) = some (.ref x) := by
    show List.lookup ("self" : Str) [(fld, Value.int i tk), ("self", .ref x)] = _
    rw [List.lookup_cons, (beq_eq_false_iff_ne.mpr (fun z => T.nf z.symm) : (("self" : Str) == fld) = false)]
    rfl
  have mfld : (fun y => List.lookup y ([("self", .ref x), (fld, .int i tk)] : List (Str × Value)).reverse) fld = some (.int i tk) := by
    show List.lookup fld [(fld, Value.int i tk), ("self", .ref x)] = _
    rw [List.lookup_cons, beq_self_eq_true]
  -- super()
  refine ks_wpAt_super_base (env := ksEnv qual (iS fld) s.heap.objs.size fI (.ref cda) cc) (f := fI) (ar := { arg := "self", annotation := none, pos := p1 }) ksup kcls (by decide) rfl (X₁ _ _ ho) rfl rfl rfl (X₁ _ _ hcode) rfl hvs hfile T.sup ?_
  refine ks_loadName_global (env := ksEnv qual (iS fld) s.heap.objs.size fI (.ref cda) cc) rfl ksup (loadGlobal_builtin (env := ksEnv qual (iS fld) s.heap.objs.size fI (.ref cda) cc) G₁ gS B₁ ((Bm _ (by decide)).trans (by decide +kernel : bootBuiltins "super" = some (.type "super"))) ⟨rfl, ?_⟩)
  refine wpAny_loadName_free (env := ksEnv qual (iS fld) s.heap.objs.size fI (.ref cda) cc) rfl kcls rfl ⟨_, X₁ _ _ hcell, rfl⟩ ?_
  refine wpAny_loadName_local (env := ksEnv qual (iS fld) s.heap.objs.size fI (.ref cda) cc) rfl rfl hn mself ?_
  refine ks_wpAny_isType_cls hC₁ rfl ⟨rfl, ?_⟩
  refine ks_wpAny_call_super hC₁ rfl hx₁ rfl (fun c e => by cases e) (looks_mroIn X₁ T.mroC) (fun h₂ e₂ k₂ => ?_)
  -- its __init__
  have X₂ : K.In h₂ := X₁.keeps k₂
  have hx₂ := k₂ _ _ hx₁
  have I₂ : InstAt h₂ x (excO C t0) C none := ⟨hx₂, rfl, rfl, trivial⟩
  refine kxs_getMethod kxs_ValueError e₂ (looks_opaque X₂ T.op) (l₀ := .ref C :: bm) ?_ rfl X₂ hal (I₂.type.andThen (looks_subIn X₂ T.vaC)) (ks_ne X₂ I₂ hcl) (by decide) ?_
  · exact fun A Q E s k q => wpAny_bind ((looks_clsIn X₂ hcl) A _ E s k (wpAny_pure q))
  have hu₃ : KxsAt "ValueError.__init__" h₂.objs.size x (h₂.push (kxs_mw "ValueError.__init__" x)) := Heap.get?_push_at rfl rfl
  have k₃ : ∀ b o, h₂.get? b = some o → (h₂.push (kxs_mw "ValueError.__init__" x)).get? b = some o := fun b o e => Heap.get?_push_of_some _ e
  have k13 : ∀ b o, h₁.get? b = some o → (h₂.push (kxs_mw "ValueError.__init__" x)).get? b = some o := fun b o e => k₃ b o (k₂ b o e)
  -- its argument
  refine kxs_callWith (i := "ValueError.__init__") (x := x) rfl (evalArgs_plain (Calls.spliced_cons (wpAny_BinOp (Calls.Constant_str ?_))))
  refine wpAny_Call_Name_kw (Calls.Name_function_global (env := ksEnv qual (iS fld) s.heap.objs.size fI (.ref cda) cc) rfl kstr (Calls.loadGlobal_builtin (env := ksEnv qual (iS fld) s.heap.objs.size fI (.ref cda) cc) (G₁.keeps k13) gT (B₁.keeps k13) ((Bm _ (by decide)).trans (by decide +kernel : bootBuiltins "str" = some (.type "str"))) ?_) (by decide))
  refine PyProof.Rows.callWith_type1 (Calls.spliced_cons (wpAny_Name (wpAny_loadName_local (env := ksEnv qual (iS fld) s.heap.objs.size fI (.ref cda) cc) rfl kf (hn.keeps k13) mfld ?_) T.nd)) rfl rfl
  refine Calls.spliced_nil (PySem.P.str_of_int hi ?_)
  refine add_str (fun t' tk' => ?_) (by have := T.ml; have := int_text_len_1921 hi; rw [sizeLine_eq]; omega)
  refine Calls.spliced_nil ⟨hu₃, ?_⟩
  have hC₃ := k13 _ _ hC₁
  have hx₃ := k13 _ _ hx₁
  have FB := F.excBase_ValueError
  refine wpAny_call (codeAny_of_tree ?_)
  show wpAny _ _ (callAny (.ref h₂.objs.size) ⟨[Value.str (msg ++ Str.ofString (toString i)) t'], []⟩) _ _ _
  simp only [callAny]
  refine wpAny_bind (wpAny_load hu₃ ?_)
  simp only [kxs_mw, show (Value.type "method-wrapper" == Value.type "method" || Value.type "method-wrapper" == Value.type "builtin_function_or_method" || Value.type "method-wrapper" == Value.type "method-wrapper") = true by decide, if_true]
  refine KFB.if_so (by decide) ?_
  refine wpAny_bind (check_bound_init FB.toExcCallFacts hC₃ hx₃ rfl ?_)
  refine wpAny_bind (wpAny_pure (wpAny_pure ?_))
  refine ⟨plainId_quiet FB.init.plain _, codeAny_builtin FB.initEntry ?_⟩
  refine exc_init_tree (cls := .ref C) (t0 := t0) (dv := none) (c2 := .none) (c3 := .none) (b4 := .bool false) hx₃ (by show 1 ≤ sizeLine; rw [sizeLine_eq]; decide) fun h₄ k₄ e₄ _ => ?_
  -- self.f = n
  show PySem.wpAt _ _ _ (execs _ _) _ _ _
  have nx4 : ∀ b o, b ≠ x → h₁.get? b = some o → h₄.get? b = some o := fun b o hb e => k₄ b o hb (k13 b o e)
  have xL : s.heap.objs.size ≠ x := Nat.ne_of_gt (Heap.lt_size hx)
  have hn₄ : h₄.Ns s.heap.objs.size _ := hn.at fun o q => nx4 _ o xL q
  have X₄ : K.In h₄ := fun b o e => nx4 b o (fun z => by rw [z, hnx] at e; cases e) (X₁ b o e)
  refine PySem.wpAt_of_wpAny (wpAny_execs_cons (plainObj_wpAny_Assign_Attribute ?_ rfl))
  refine wpAny_Name (wpAny_loadName_local (env := ksEnv qual (iS fld) s.heap.objs.size fI (.ref cda) cc) rfl kf hn₄ mfld ?_) T.nd
  refine wpAny_Name (wpAny_loadName_local (env := ksEnv qual (iS fld) s.heap.objs.size fI (.ref cda) cc) rfl rfl hn₄ mself ?_) (by decide)
  refine set_plain X₄ (od := none) ⟨e₄, rfl, rfl, trivial⟩ T.sa ?_
  refine exc_osa X₄ e₄ hcl (show refsVE (.ref C :: bm) = true from hbm) rfl T.noF (fun h₅ tk₅ dx k₅ dn dne hx₅ hn₅ => ?_)
  refine wpAny_execs_nil (hq h₅ tk₅ dx ⟨fun b o hb e => k₅ b o hb (nx4 b o hb (hk b o e)), ⟨_, hx₅⟩, ?_, dne, hn₅⟩)
  exact Nat.le_trans (Nat.le_of_lt hn₄.lt) dn
/-- a made one -/
structure OwnMade (h h' : Heap) (e C d : Addr) (fld : Str) (v : Value) : Prop where
  keep : ∀ b o, h.get? b = some o → h'.get? b = some o
  new : h.objs.size ≤ e
  obj : ∃ oe vs, h'.get? e = some oe ∧ oe.cls = .ref C ∧ oe.dict = some d ∧ oe.data = .fields vs ∧ vs[1]? = some .none
  dbig : h.objs.size ≤ d
  dne : d ≠ e
  ns : h'.Ns1 d (fun y => if y = fld then some v else none)
theorem one_size (v : Value) : [v].length ≤ sizeLine := by
  rw [sizeLine_eq]
  exact (by decide : 1 ≤ 16777216)
theorem play_made (T : ITxt prog K fld msg qual C fI) {i : Int} {tk : Tok} (X : K.In s.heap) (G : s.heap.Ns mainGlobals mg) (gS : mg "super" = none) (gT : mg "str" = none)
    (B : ∃ mb, s.heap.Ns builtinsNs mb ∧ ∀ x : Str, x ≠ "__name__" → mb x = bootBuiltins x) (hlim : s.heap.NoLimit) (hroom : A.depth + 1 < recursionLimit) (hi : i.natAbs.log2 < 1920)
    (hq : ∀ h' tk' e d, OwnMade s.heap h' e C d fld (.int i tk) → R (.ok (.ret (.ref e))) { s with heap := h', toks := tk' }) :
    codeAny (model prog w) A (.call (.ref C) ⟨[.int i tk], []⟩) R s := by
  obtain ⟨nm, q, N, bs, bm, sn, sub, ab, col, dd, k0, k1, k2, k3, k5, hC, hbm, _⟩ := T.cls
  obtain ⟨hp, g, dr, tk0, os⟩ := s
  have k : ∀ b o, hp.get? b = some o → ((hp.push (kdv_tup [.int i tk])).push (excO C hp.objs.size)).get? b = some o := fun b o e => Heap.get?_push_of_some _ (Heap.get?_push_of_some _ e)
  have hget : ((hp.push (kdv_tup [.int i tk])).push (excO C hp.objs.size)).get? (hp.objs.size + 1) = some (excO C hp.objs.size) := by heap_get
  have hnx : K.lookup (hp.objs.size + 1) = none := by
    cases e : K.lookup (hp.objs.size + 1) with
    | none => rfl
    | some o =>
      have z : hp.get? (hp.objs.size + 1) = some o := X _ _ e
      exact absurd (Nat.lt_of_succ_lt (Heap.lt_size z)) (Nat.lt_irrefl _)
  refine call_own F.excBase_ValueError (fun X => refsVE_contains X bm hbm) (X _ _ hC) (looks_findIn X T.iC) (fun self => bind_fn X self T.tC) (one_size _) ?_
  obtain ⟨mb, Bn, Bm⟩ := B
  refine play_init (s := ⟨(hp.push (kdv_tup [.int i tk])).push (excO C hp.objs.size), g, dr, tk0, os⟩) T (X.keeps k) (G.keeps k) gS gT ⟨mb, Bn.keeps k, Bm⟩ (hlim.keeps k) hget hnx ?_ hi fun h' tk' dx ⟨k', ⟨t1, hx⟩, dn, dne, hns⟩ => ?_
  · show A.depth + 1 < recursionLimit
    exact hroom
  · have old : ∀ b o, hp.get? b = some o → h'.get? b = some o := fun b o e => k' b o (Nat.ne_of_lt (Nat.lt_succ_of_lt (Heap.lt_size e))) (k b o e)
    have z : hp.objs.size + 1 + 1 ≤ dx := by
      first
        | (simpa only [Heap.size_push] using dn)
        | exact dn
        | (have q := dn; rw [Heap.size_push, Heap.size_push] at q; exact q)
    exact ⟨rfl, hq h' tk' (hp.objs.size + 1) dx ⟨old, Nat.le_succ _, ⟨_, _, hx, rfl, rfl, rfl, rfl⟩, Nat.le_trans (Nat.le_trans (Nat.le_succ _) (Nat.le_succ _)) z, dne, hns⟩⟩
end
end DLX
namespace DL
open PySem PySem.Spec PyProof.Rows L2
theorem relO_fld {v : V} {v' : Value} (r : RelV v v') (fld f : Str) : RelO (List.lookup f [(fld, v)]) (if f = fld then some v' else none) := by
  by_cases hw : f = fld
  · subst hw
    rw [if_pos rfl]
    have q : List.lookup f [(f, v)] = some v := by simp [List.lookup]
    rw [q]
    exact r
  · rw [if_neg hw]
    have qw : (f == fld) = false := by simpa using hw
    have q2 : List.lookup f [(fld, v)] = none := by simp [List.lookup, qw]
    rw [q2]
    trivial
/-- what is known of an error class, beside its name -/
structure ExcT (P : Program) (K : PySem.W.Frag) (mg : Str → Option Value) (x fld : Str) (C : Addr) : Prop where
  gC : mg x = some (.ref C)
  gS : mg "super" = none
  gT : mg "str" = none
  tx : ∃ msg qual fI, DLX.ITxt P K fld msg qual C fI
  te : PySem.W.exmOne K (.ref C) (.ref C) = some true
  ga : PySem.W.findIn K (.ref C) "__getattribute__" = some (some (.builtin "BaseException.__getattribute__"))
  gg : PySem.W.findIn K (.ref C) "__getattr__" = some none
  hdC : PySem.W.hasDictIn K C = true
section
variable {X : Cx} {C : Addr} {x fld : Str}
/-- x(e) -/
def tMkP (C : Addr) (fld : Str) (ta : TA) : L2.St → Hp → XK → Prop := fun σ H Q => ta σ H fun vs H1 => ∃ i : Int, vs = [.int i] ∧ i.natAbs.log2 < 1920 ∧ ∀ d, H1 d = none → Q (.ref C) (some d) (upd H1 d (.xd [(fld, .int i)]))
theorem pmk_play {a : Expr} {ta : TA} {p pos : Pos} {k : Nat} (T : ExcT X.prog X.K X.mg x fld C) (hr : Room k X.A) (ha : PA X [a] ta) (hg : Gl X x := by rfl) (hdb : (x == ("__debug__" : Str)) = false := by decide)
    (he : starEach (a :: []) X.env = (false, eval a X.env) :: starEach [] X.env := by rfl) (hpl : (backTo pos (starEach [] X.env)).any (·.1) = false := by rfl) :
    PMk X (.Call (.Name x p) [a] [] pos) (tMkP C fld ta) := by
  intro pins s σ H Q I h
  obtain ⟨msg, qual, fI, TX⟩ := T.tx
  refine wpAny_Call_Name_kw (ld_glob I hg T.gC ?_ hdb)
  refine PySem.W.callWith_K (h₀ := X.base) I.ok.mod.kin TX.kC (thn (ha.run pos pins s σ H _ I h) fun us s1 hh => ?_) he hpl
  obtain ⟨vs, H1, I1, r1, i, ev, hi, q1⟩ := hh
  subst ev
  refine ⟨I1.kIn, ?_⟩
  cases r1 with
  | cons rv rn =>
    cases rn
    obtain ⟨tk, rfl⟩ := rv
    show wpAny _ _ (call (.ref C) [.int i tk]) _ _ _
    have hlim := I1.nolimit
    have gl : s1.heap.Ns mainGlobals X.mg := I1.ok.mod.glob.keeps I1.bk
    obtain ⟨mb, b1, b2⟩ := I1.ok.mod.blt
    have bl : s1.heap.Ns builtinsNs mb := b1.keeps I1.bk
    obtain ⟨hp, g, dr, tk0, os⟩ := s1
    refine wpAny_call (DLX.play_made TX I1.kIn gl T.gS T.gT ⟨mb, bl, b2⟩ hlim (by have := hr.dp; omega) hi fun h' tk' e d M => ?_)
    show MkP X pins σ Q (.ref e) ⟨h', g, dr, tk', os⟩
    obtain ⟨oe, fv, hoe, hc, hd, hdat, h1⟩ := M.obj
    have hns := M.ns
    obtain ⟨G', g1, g2⟩ := restrict h' fun b => decide (b ≠ e)
    have gk : ∀ b, b ≠ e → G'.get? b = h'.get? b := fun b hb => g1 b (decide_eq_true hb)
    have ge : G'.get? e = none := g2 e (by simp)
    have old : ∀ b o, hp.get? b = some o → G'.get? b = some o := fun b o q => (gk b (Nat.ne_of_lt (Nat.lt_of_lt_of_le (Heap.lt_size q) M.new))).trans (M.keep b o q)
    have ob : ObjOk X.prog X.w (upd H1 d (.xd [(fld, .int i)])) G' d (.xd [(fld, .int i)]) :=
      ⟨_, hns.at (fun o q => (gk d M.dne).trans q), fun f => relO_fld (v := .int i) ⟨tk, rfl⟩ fld f⟩
    have J : Inv X pins σ (upd H1 d (.xd [(fld, .int i)])) ⟨G', g, dr, tk', os⟩ := I1.laid (t' := tk') old M.dbig ob
    refine ⟨e, oe, fv, ⟨G', g, dr, tk', os⟩, _, .ref C, some d, rfl, J, fun b o q => ?_, ge, hoe, ⟨hc, hd⟩, hdat, h1, ?_, rfl, I1.bare, raises_own TX.exC TX.tyC, q1 d (I1.hok.fresh M.dbig)⟩
    · by_cases hb : b = e
      · have q' : G'.get? b = some o := q
        rw [hb, ge] at q'; cases q'
      · exact (gk b hb).symm.trans q
    · rw [upd_ne (Ne.symm M.dne)]
      exact I1.hok.fresh M.new
end
end DL

set_option Elab.async false
set_option linter.all false
set_option maxRecDepth 100000
set_option maxHeartbeats 4000000
namespace DL
open PySem PySem.Spec PyProof.Rows L2
/-! ### own errors over data -/
def pXd (d : Addr) (fs : List (Str × PyData)) : PySem.W.Frag → Hp → Prop := fun K S => ∃ vs, S d = some (.xd vs) ∧ FsRel K S vs fs
def dMkX (C : Addr) (fld : Str) (te : DTE) : Sl → Mem → DX → Prop := fun ρ M E => te ρ M (fun x M1 => asI x fun i => i.natAbs.log2 < 1920 ∧ E (.own C [(fld, .int i)]) M1) fun _ _ => False
section
variable {X : Cx} {C : Addr} {x fld : Str} {W : WX} {p pos : Pos} {k : Nat}
theorem dmk_own {a : Expr} {te : DTE} (T : ExcT X.prog X.K X.mg x fld C) (hr : Room k X.A) (ha : DE X W0 a te) (hg : Gl X x := by rfl) (hdb : (x == ("__debug__" : Str)) = false := by decide)
    (he : starEach (a :: []) X.env = (false, eval a X.env) :: starEach [] X.env := by rfl) (hpl : (backTo pos (starEach [] X.env)).any (·.1) = false := by rfl) :
    DMk X (.Call (.Name x p) [a] [] pos) (dMkX C fld te) := by
  intro pins s σ H Q I h
  refine pmk_play T hr (da_cons ha da_nil he) hg hdb he hpl pins s σ H Q I ?_
  obtain ⟨w, M, ρ, E0, s0, h, k⟩ := h
  refine ⟨w, M, ρ, fun vs M1 => match vs with
    | [x] => asI x fun i => i.natAbs.log2 < 1920 ∧ E0 (.own C [(fld, .int i)]) M1
    | _ => False, _, s0, h, fun vs M1 w1 us H1 h1 l1 s1 r1 => ?_, fun _ _ _ _ _ _ z => z.elim⟩
  match vs, r1, h1 with
  | [x], .cons q .nil, h1 =>
    obtain ⟨i, rfl, rfl, h2, h3⟩ := int_of q h1
    refine ⟨i, rfl, h2, fun d hd => ?_⟩
    exact k _ _ _ _ _ _ h3 (l1.trans (.more (o := .xd [(fld, .int i)]) (s1.noS hd))) (s1.grow _ hd) ⟨rfl, d, _, rfl, upd_same, rfl, Rp.int i, trivial⟩

/-! ### try, one clause; m tells, of an error's class, whether the clause takes it -/
variable {n : Str} {c : Value} {i : Nat} {body suite : List Stmt} {b₀ : Stmt} {np pos' : Pos} {tb : DTS} {ts : Addr → Addr → DTS} {m : Addr → Option Bool}
def dTryAs (m : Addr → Option Bool) (i : Nat) (tb : DTS) (ts : Addr → Addr → DTS) : DTS := fun D ρ M => tb { D with ex := fun x ρ' M' => match x with
  | .own C fs => (m C = some true ∧ ∀ a d, ts a d { nx := fun ρ2 M2 => D.nx (put ρ2 i .no) M2, rt := D.rt, bk := fun ρ2 M2 => D.bk (put ρ2 i .no) M2, ct := fun ρ2 M2 => D.ct (put ρ2 i .no) M2 } (put ρ' i (.raw (.ref a) (pXd d fs))) M') ∨ (m C = some false ∧ D.ex x ρ' M')
  | .bare _ => False } ρ M
theorem pXd_mono {d : Addr} {fs : List (Str × PyData)} {K : PySem.W.Frag} {S S' : Hp} (h : ∀ a o, S a = some o → S' a = some o) (q : pXd d fs K S) : pXd d fs K S' := by
  obtain ⟨vs, h1, h2⟩ := q
  exact ⟨vs, h _ _ h1, FsRel.mono h h2⟩
theorem ds_tryAs (i : Nat) (hs : X.stack = X.env :: X.outer) (hf : X.env.frame = some X.env.locals) (hN : X.N.Nodup) (hc : Names X x c) (hm : ∀ C b, m C = some b → PySem.W.exmOne X.K (.ref C) c = some b) (tk : Takes X W)
    (hb : ∀ (W' : WX) (pn : List (Addr × Obj)) (xe : Value → Shared → Prop), Takes (X.tr pn xe) W' → PassesOwn (model X.prog X.w) X.A X.env xe → DSs (X.tr pn xe) W' body tb)
    (hsu : ∀ (a : Addr) (oe : Obj) (C : Addr) (d : Addr) (pn : List (Addr × Obj)), m C = some true → Zc (.ref C) (some d) oe → (∃ vs, oe.data = .fields vs) → DSs (X.suite a ((a, oe) :: pn)) W0 (b₀ :: suite) (ts a d))
    (hi : X.N[i]? = some n := by rfl) (hln : X.env.kindOf n = some .local := by rfl) :
    DS X W (.Try body [.ExceptHandler (some (.Name x np)) (some n) (b₀ :: suite) pos'] [] [] pos) (dTryAs m i tb ts) := by
  refine PS.imp (ps_try_as (tb := fun W' => liftS X.K W' tb) (ts := fun a cls d D σ H => ∃ C dd, cls = .ref C ∧ d = some dd ∧ m C = some true ∧ liftS X.K W0 (ts a dd) D σ H) hs hf hN hi hln hc tk hb (fun a oe cls d pn hz hf => ⟨fun pins s σ H D I ⟨C, dd, e1, e2, e3, h⟩ => ?_⟩)) fun D σ H ⟨w, M, ρ, D0, s, h, k⟩ => ?_
  · subst e1 e2
    exact (hsu a oe C dd pn e3 hz hf).run pins s σ H D I h
  · refine ⟨w, M, ρ, _, s, h, ⟨k.nx, k.rt, k.bk, k.ct, fun y ρ' M' w' σ' H' cls d q l s' r => ?_⟩⟩
    match y, r, q with
    | .own C fs, ⟨e1, dd, vs, e2, e3, e4⟩, q =>
      subst e1 e2
      rcases q with ⟨q1, q2⟩ | ⟨q1, q2⟩
      · refine ⟨true, hm C true q1, fun _ a na => ⟨C, dd, rfl, rfl, q1, w', M', _, _, ⟨s'.m, SlAll.put (SlotOk.of (d := .raw (.ref a) (pXd dd fs)) (⟨rfl, fun _ _ z => pXd_mono z, vs, e3, e4⟩ : RelDV X.K w' (.ref a) (.raw (.ref a) (pXd dd fs)))) i s'.s⟩, q2 a dd, ?_⟩, fun z => by cases z⟩
        have kl := k.le l
        exact ⟨fun ρ4 M4 w4 σ4 H4 f4 l4 s4 => kl.nx _ M4 w4 _ H4 f4 l4 ⟨s4.m, SlAll.put (o := none) (x := .no) trivial i s4.s⟩, kl.rt, fun ρ4 M4 w4 σ4 H4 f4 l4 s4 => kl.bk _ M4 w4 _ H4 f4 l4 ⟨s4.m, SlAll.put (o := none) (x := .no) trivial i s4.s⟩,
          fun ρ4 M4 w4 σ4 H4 f4 l4 s4 => kl.ct _ M4 w4 _ H4 f4 l4 ⟨s4.m, SlAll.put (o := none) (x := .no) trivial i s4.s⟩, fun _ _ _ _ _ _ _ _ z => z.elim⟩
      · exact ⟨false, hm C false q1, fun z => (by cases z), fun _ => k.ex _ ρ' M' w' σ' H' _ _ q2 l s' ⟨rfl, dd, vs, rfl, e3, e4⟩⟩
def dTry (m : Addr → Option Bool) (tb ts : DTS) : DTS := fun D ρ M => tb { D with ex := fun x ρ' M' => match x with
  | .own C fs => (m C = some true ∧ ts { D with ex := fun _ _ _ => False } ρ' M') ∨ (m C = some false ∧ D.ex x ρ' M')
  | .bare _ => False } ρ M
theorem ds_try {ts : DTS} (hs : X.stack = X.env :: X.outer) (hf : X.env.frame = some X.env.locals) (hc : Names X x c) (hm : ∀ C b, m C = some b → PySem.W.exmOne X.K (.ref C) c = some b) (tk : Takes X W)
    (hb : ∀ (W' : WX) (pn : List (Addr × Obj)) (xe : Value → Shared → Prop), Takes (X.tr pn xe) W' → PassesOwn (model X.prog X.w) X.A X.env xe → DSs (X.tr pn xe) W' body tb)
    (hsu : ∀ (a : Addr) (oe : Obj) (cls : Value) (d : Option Addr) (pn : List (Addr × Obj)), Zc cls d oe → (∃ vs, oe.data = .fields vs) → DSs (X.suite a ((a, oe) :: pn)) W0 (b₀ :: suite) ts) :
    DS X W (.Try body [.ExceptHandler (some (.Name x np)) none (b₀ :: suite) pos'] [] [] pos) (dTry m tb ts) := by
  refine PS.imp (ps_try_only (tb := fun W' => liftS X.K W' tb) (ts := fun a cls d => liftS X.K W0 ts) hs hf hc tk hb hsu) fun D σ H ⟨w, M, ρ, D0, s, h, k⟩ => ?_
  refine ⟨w, M, ρ, _, s, h, ⟨k.nx, k.rt, k.bk, k.ct, fun y ρ' M' w' σ' H' cls d q l s' r => ?_⟩⟩
  match y, r, q with
  | .own C fs, ⟨e1, dd, vs, e2, e3, e4⟩, q =>
    subst e1 e2
    rcases q with ⟨q1, q2⟩ | ⟨q1, q2⟩
    · have kl := k.le l
      exact ⟨true, hm C true q1, fun _ a na => ⟨w', M', ρ', _, s', q2, ⟨kl.nx, kl.rt, kl.bk, kl.ct, fun _ _ _ _ _ _ _ _ z => z.elim⟩⟩, fun z => by cases z⟩
    · exact ⟨false, hm C false q1, fun z => (by cases z), fun _ => k.ex _ ρ' M' w' σ' H' _ _ q2 l s' ⟨rfl, dd, vs, rfl, e3, e4⟩⟩
/-- err.f in a suite -/
def dXf (a d : Addr) (f : Str) (i : Nat) : DTE := fun ρ M Q _ => ∃ fs y, slot ρ i = .raw (.ref a) (pXd d fs) ∧ fs.lookup f = some y ∧ Q (.val y) M
theorem de_xf {a d C : Addr} {oe : Obj} {pn : List (Addr × Obj)} (i : Nat) {f : Str} {y : Str} {py : Pos} (T : XfC X.K C) (hno : PySem.W.findIn X.K (.ref C) f = some none) (hz : Zc (.ref C) (some d) oe) (hf : ∃ vs, oe.data = .fields vs)
    (hN : (X.suite a ((a, oe) :: pn)).N[i]? = some y := by rfl) (hv : Vis X.env.scope y := by first | exact Or.inl rfl | exact Or.inr (Or.inl rfl) | exact Or.inr (Or.inr rfl)) (hd : (y == ("__debug__" : Str)) = false := by decide)
    (hcd : (y == ("__classdict__" : Str)) = false := by decide) (hb : attributeBase (.Name y py) f X.env (eval (.Name y py) X.env) = eval (.Name y py) X.env := by rfl) :
    DE (X.suite a ((a, oe) :: pn)) W0 (.Attribute (.Name y py) f pos) (dXf a d f i) := PE.imp (pe_xf T hno hz hf (pe_var (i := i) hN hv hd hcd) hb) fun σ H Q ⟨w, M, ρ, Q0, E0, s, ⟨fs, y, h1, h2, h3⟩, k, _⟩ => by
  have ne : slot ρ i ≠ .no := fun z => by rw [z] at h1; cases h1
  obtain ⟨v, e, r⟩ := s.s.get ne
  rw [h1] at r
  obtain ⟨rfl, _, vs, r1, r2⟩ := r
  obtain ⟨v, g1, g2⟩ := FsRel.lookup r2 h2
  exact ⟨_, e, rfl, rfl, d, vs, v, rfl, s.m.sub _ _ r1, g1, k _ M w v H h3 (.refl w) s.m g2⟩
theorem ExcT.xf {P : Program} {K : PySem.W.Frag} {mg : Str → Option Value} (T : ExcT P K mg x fld C) : XfC K C := by
  obtain ⟨msg, qual, fI, TX⟩ := T.tx
  exact ⟨T.ga, T.gg, TX.exC, T.hdC⟩
theorem ExcT.nof {P : Program} {K : PySem.W.Frag} {mg : Str → Option Value} (T : ExcT P K mg x fld C) : PySem.W.findIn K (.ref C) fld = some none := by
  obtain ⟨msg, qual, fI, TX⟩ := T.tx
  exact TX.noF
/-- except X as ..: of X itself alone -/
def mOne (C : Addr) : Addr → Option Bool := fun D => if D = C then some true else none
theorem mOne_ok {K : PySem.W.Frag} {C : Addr} (h : PySem.W.exmOne K (.ref C) (.ref C) = some true) : ∀ D b, mOne C D = some b → PySem.W.exmOne K (.ref D) (.ref C) = some b := fun D b e => by
  unfold mOne at e
  split at e
  · rename_i z
    cases e
    subst z
    exact h
  · cases e
theorem mOne_eq {C D : Addr} (h : mOne C D = some true) : D = C := by
  unfold mOne at h
  split at h
  · assumption
  · cases h
end
end DL
namespace DL
open L2
theorem takes0 {X : Cx} : Takes X W0 := fun u s' ⟨_, _, _, _, _, _, _, _, _, _, _, _, _, _, _, _, h⟩ => h.elim
end DL

set_option Elab.async false
set_option linter.all false
set_option maxRecDepth 100000
set_option maxHeartbeats 4000000
namespace DL
open PySem PySem.Spec PyProof.Rows L2
/-! ### the box that draws come from: [cells, n, k] -/
structure BoxAt (H : Hp) (a c : Addr) (cells : List Int) (n k : Int) : Prop where
  ne : a ≠ c
  ba : H a = some (.lst [.ref c, .int n, .int k])
  ce : H c = some (.lst (cells.map V.int))
def boxφ : PySem.W.Frag → Hp → Hp → List Addr → Prop := fun _ _ H as => ∃ a c cells n k, as = [a, c] ∧ BoxAt H a c cells n k
theorem boxφ_local : Local boxφ := fun K S S' H H' as _ h ⟨a, c, cells, n, k, e, b⟩ => by
  subst e
  exact ⟨a, c, cells, n, k, rfl, b.ne, by rw [h a (by simp)]; exact b.ba, by rw [h c (by simp)]; exact b.ce⟩
def pInts (a : Addr) (ns : List Int) : PySem.W.Frag → Hp → Prop := fun K S => SqL K S a (ns.map V.int)
def W_box : DSp := fun args M Q _ => ∃ a ns, args = [.raw (.ref a) (pInts a ns)] ∧ ns.length ≤ 63 ∧ Q (.ref M.length) (M ++ [.res boxφ])
def W_draw : DSp := fun args M Q _ => ∃ i many, args = [.ref i, .val (.int many)] ∧ mem M i = .res boxφ ∧ 0 < many ∧ many < 2 ^ 64 ∧ ∀ d, 0 ≤ d → d < many → Q (.val (.int d)) M
/-- the hand layer's promises -/
def spBox (K : PySem.W.Frag) : Sp := fun vs H Q _ => ∃ (a : Addr) (ns : List Int), vs = [.ref a] ∧ SqL K H a (ns.map V.int) ∧ ns.length ≤ 63 ∧ ∀ H' b c (cells : List Int) (n k : Int), Same H H' → H c = none → H b = none → BoxAt H' b c cells n k → Q (.ref b) H'
/-- only the box's own lists change -/
def BoxTo (H H' : Hp) (a c : Addr) : Prop := (∀ b, b ≠ a → b ≠ c → H' b = H b) ∧ ∃ cells n k, BoxAt H' a c cells n k
def spLoad : Sp := fun vs H Q _ => ∃ a c cells n k, vs = [.ref a] ∧ BoxAt H a c cells n k ∧ ∀ H' r, BoxTo H H' a c → Q (.int r) H'
def spDraw : Sp := fun vs H Q _ => ∃ a c cells n k many, vs = [.ref a, .int many] ∧ BoxAt H a c cells n k ∧ 0 < many ∧ many < 2 ^ 64 ∧ ∀ H' d, BoxTo H H' a c → 0 ≤ d → d < many → Q (.int d) H'
theorem BoxAt.cells {H : Hp} {a c : Addr} {cells cells' : List Int} {n k : Int} (b : BoxAt H a c cells n k) : BoxAt (upd H c (.lst (cells'.map V.int))) a c cells' n k :=
  ⟨b.ne, by rw [upd_ne b.ne]; exact b.ba, upd_same⟩
theorem BoxAt.box {H : Hp} {a c : Addr} {cells : List Int} {n k n' k' : Int} (b : BoxAt H a c cells n k) : BoxAt (upd H a (.lst [.ref c, .int n', .int k'])) a c cells n' k' :=
  ⟨b.ne, upd_same, by rw [upd_ne (Ne.symm b.ne)]; exact b.ce⟩
theorem BoxTo.refl {H : Hp} {a c : Addr} {cells : List Int} {n k : Int} (b : BoxAt H a c cells n k) : BoxTo H H a c := ⟨fun _ _ _ => rfl, _, _, _, b⟩
theorem frame_upd {H H0 : Hp} {a c p : Addr} {o : HO} (f : ∀ b, b ≠ a → b ≠ c → H b = H0 b) (h : p = a ∨ p = c) : ∀ b, b ≠ a → b ≠ c → upd H p o b = H0 b := fun b h1 h2 => by
  rw [upd_ne (by rcases h with h | h <;> subst h <;> assumption)]
  exact f b h1 h2
section
variable {K : PySem.W.Frag} {w : Wd} {M : Mem} {H H' : Hp}
/-- new objects of a kind of their own -/
theorem SatM.pushR (s : SatM K w M H) {as : List Addr} {φ : PySem.W.Frag → Hp → Hp → List Addr → Prop} (k : Same H H') (hn : ∀ a ∈ as, H a = none) (ho : ∀ a ∈ as, ∃ o, H' a = some o) (hl : Local φ) (hφ : φ K w.S H' as) :
    SatM K ⟨w.S, w.ad ++ [as], w.hd⟩ (M ++ [.res φ]) H' := by
  have k := s.keep k
  have ap : ∀ a ∈ as, Apart w M a := fun a ha => s.apart (hn a ha)
  have cut : ∀ {i : Nat} {bs : List Addr}, (w.ad ++ [as])[i]? = some bs → (i < M.length ∧ w.ad[i]? = some bs) ∨ (i = M.length ∧ bs = as) := fun {i bs} e => by
    by_cases z : i < w.ad.length
    · rw [List.getElem?_append_left z] at e
      exact .inl ⟨by rw [← s.len]; exact z, e⟩
    · have z' : w.ad.length ≤ i := by omega
      rw [List.getElem?_append_right z'] at e
      have e0 : i - w.ad.length = 0 := by
        obtain ⟨q, _⟩ := List.getElem?_eq_some_iff.mp e
        simp at q; omega
      rw [e0] at e
      simp at e
      exact .inr ⟨by rw [← s.len]; omega, e.symm⟩
  refine ⟨k.sub, by simp [s.len], fun i bs e => ?_, fun i bs e l a ha => ?_, fun i j bs cs e1 e2 l1 l2 ne a ha hb => ?_, fun q hq => ⟨(k.hid q hq).1, (k.hid q hq).2.1, fun i bs e l hm => ?_⟩⟩
  · rcases cut e with ⟨hi, e'⟩ | ⟨hi, e'⟩
    · rw [mem_append_left hi]; exact k.rel i bs e'
    · subst hi e'
      rw [mem_append_0]
      exact ⟨hl, hφ⟩
  · rcases cut e with ⟨hi, e'⟩ | ⟨hi, e'⟩
    · rw [mem_append_left hi] at l
      exact k.own i bs e' l a ha
    · subst hi e'
      exact ⟨s.noS (hn a ha), ho a ha⟩
  · rcases cut e1 with ⟨hi, z1⟩ | ⟨hi, z1⟩ <;> rcases cut e2 with ⟨hj, z2⟩ | ⟨hj, z2⟩
    · rw [mem_append_left hi] at l1
      rw [mem_append_left hj] at l2
      exact s.dis i j bs cs z1 z2 l1 l2 ne a ha hb
    · subst z2
      rw [mem_append_left hi] at l1
      exact (ap a hb).1 i bs z1 l1 ha
    · subst z1
      rw [mem_append_left hj] at l2
      exact (ap a ha).1 j cs z2 l2 hb
    · exact ne (hi.trans hj.symm)
  · rcases cut e with ⟨hi, e'⟩ | ⟨hi, e'⟩
    · rw [mem_append_left hi] at l
      exact (k.hid q hq).2.2 i bs e' l hm
    · subst e'
      exact (ap _ hm).2 q hq rfl
/-- an object of a kind of its own changes, its addresses staying -/
theorem SatM.setR (s : SatM K w M H) {i : Nat} {as : List Addr} {φ : PySem.W.Frag → Hp → Hp → List Addr → Prop} (h : mem M i = .res φ) (e : w.ad[i]? = some as) (f : ∀ b, b ∉ as → H' b = H b) (ho : ∀ a ∈ as, ∃ o, H' a = some o) (hφ : φ K w.S H' as) : SatM K w M H' := by
  have li : (mem M i).live = true := by rw [h]; rfl
  have hS : ∀ a ∈ as, w.S a = none := fun a ha => (s.own i _ e li a ha).1
  have other : ∀ {j : Nat} {bs : List Addr}, w.ad[j]? = some bs → j ≠ i → (mem M j).live = true → ∀ a ∈ bs, a ∉ as := fun {j bs} e' hne l a ha z =>
    s.dis j i bs as e' e l li hne a ha z
  refine ⟨fun a o q => ?_, s.len, fun j bs e' => ?_, fun j bs e' l a ha => ?_, s.dis, fun q hq => ⟨?_, (s.hid q hq).2⟩⟩
  · have z : a ∉ as := fun z => by rw [hS a z] at q; cases q
    rw [f a z]; exact s.sub _ _ q
  · have q := s.rel j bs e'
    by_cases hj : j = i
    · subst hj
      rw [e] at e'; cases e'
      rw [h] at q ⊢
      exact ⟨q.1, hφ⟩
    · cases hm : mem M j with
      | gone => trivial
      | lst es =>
        rw [hm] at q
        obtain ⟨a, ys, e1, e2, e3⟩ := q
        refine ⟨a, ys, e1, ?_, e3⟩
        rw [f a (other e' hj (by rw [hm]; rfl) a (by rw [e1]; simp))]; exact e2
      | res ψ =>
        rw [hm] at q
        exact ⟨q.1, q.1 K _ _ _ _ bs (fun _ _ z => z) (fun a ha => f a (other e' hj (by rw [hm]; rfl) a ha)) q.2⟩
  · by_cases hj : j = i
    · subst hj
      rw [e] at e'; cases e'
      exact ⟨hS a ha, ho a ha⟩
    · obtain ⟨h1, o, h2⟩ := s.own j bs e' l a ha
      exact ⟨h1, o, by rw [f a (other e' hj l a ha)]; exact h2⟩
  · rw [f q.1 (fun z => (s.hid q hq).2.2 i _ e li z)]
    exact (s.hid q hq).1
/-- from the hand layer's promise of the box -/
theorem W_box_of (vs : List V) (H : Hp) (Q : VK) (E : XK) (h : liftSp K W_box vs H Q E) : spBox K vs H Q E := by
  obtain ⟨w, M, args, Q0, E0, s, r, ⟨a, ns, e1, hl, q⟩, k, _⟩ := h
  subst e1
  cases r with
  | cons r1 r2 =>
    cases r2
    obtain ⟨rfl, _, r1⟩ := r1
    have sub : SqL K H a (ns.map V.int) := by
      rcases r1 with (r1 | ⟨o, r1⟩) | r1
      · exact .inl (.inl (s.sub _ _ r1))
      · exact .inl (.inr ⟨o, s.sub _ _ r1⟩)
      · exact .inr r1
    refine ⟨a, ns, rfl, sub, hl, fun H' b c cells n k' sm hc hb b1 => ?_⟩
    refine k _ _ ⟨w.S, w.ad ++ [[b, c]], w.hd⟩ _ _ q ⟨fun _ _ e => e, ⟨[[b, c]], rfl⟩, rfl⟩ (s.pushR (as := [b, c]) sm ?_ ?_ boxφ_local ⟨b, c, cells, n, k', rfl, b1⟩) ⟨b, [c], by show (w.ad ++ [[b, c]])[M.length]? = some [b, c]; rw [← s.len]; simp, rfl⟩
    · intro x hx
      rcases List.mem_cons.mp hx with e | hx
      · subst e; exact hb
      · have e : x = c := by simpa using hx
        subst e; exact hc
    · intro x hx
      rcases List.mem_cons.mp hx with e | hx
      · subst e; exact ⟨_, b1.ba⟩
      · have e : x = c := by simpa using hx
        subst e; exact ⟨_, b1.ce⟩
theorem W_draw_of (vs : List V) (H : Hp) (Q : VK) (E : XK) (h : liftSp K W_draw vs H Q E) : spDraw vs H Q E := by
  obtain ⟨w, M, args, Q0, E0, s, r, ⟨i, many, e1, hm, h0, h1, q⟩, k, _⟩ := h
  subst e1
  cases r with
  | cons r1 r2 =>
    cases r2 with
    | cons r2 r3 =>
      cases r3
      cases r2
      obtain ⟨a', t, e, rfl⟩ := r1
      have rel := s.rel i _ e
      rw [hm] at rel
      obtain ⟨_, a, c, cells, n, k', e2, b⟩ := rel
      cases e2
      refine ⟨_, c, cells, n, k', many, rfl, b, h0, h1, fun H' d ⟨f, cells', n', k2, b'⟩ g0 g1 => k _ _ w _ _ (q d g0 g1) (.refl w) ?_ (Rp.int d)⟩
      refine s.setR hm e (fun x hx => f x (fun z => hx (by rw [z]; simp)) (fun z => hx (by rw [z]; simp))) (fun x hx => ?_) ⟨_, c, cells', n', k2, rfl, b'⟩
      rcases List.mem_cons.mp hx with e | hx
      · subst e; exact ⟨_, b'.ba⟩
      · have e : x = c := by simpa using hx
        subst e; exact ⟨_, b'.ce⟩
end
end DL
namespace DL
open PySem PySem.Spec PyProof.Rows L2
/-- a def that stands and keeps a promise of the hand layer -/
def HFn (P : Program) (wd : World) (K : PySem.W.Frag) (mg : Str → Option Value) (base : Heap) (x : Str) (k : Nat) (sp : Sp) : Prop :=
  ∃ f fd ps, mg x = some (.ref f) ∧ PySem.W.keepIn K (.ref f) = true ∧ Binds K fd ps [] ∧ FnOk P wd K mg base (L2.CX P wd) k f fd ps sp
theorem log2_64 {i : Int} (h0 : 0 < i) (h : i < 2 ^ 64) : CDivW 0 i := by
  refine ⟨h0, ?_⟩
  have : i.natAbs < 2 ^ 64 := by
    have e : (2 : Int) ^ 64 = 18446744073709551616 := by decide
    rw [e] at h
    have e' : (2 : Nat) ^ 64 = 18446744073709551616 := by decide
    rw [e']
    omega
  exact Nat.lt_of_lt_of_le (PySem.Flt.log2_lt_of (by decide) this) (by decide)
end DL

set_option Elab.async false
set_option linter.all false
set_option maxRecDepth 100000
set_option maxHeartbeats 4000000
namespace DL
open PySem L2
/-! ### plain facts -/
abbrev intL (ns : List Int) : List PyData := ns.map .int
abbrev vI (i : Int) : DV := .val (.int i)
theorem sl : sizeLine = 16777216 := sizeLine_eq
theorem map_val_int (ns : List Int) : (ns.map PyData.int).map DV.val = ns.map vI := by rw [List.map_map]; rfl
section
variable {α : Type}
theorem ixN_nat {n k : Nat} (h : k < n) : ixN n (k : Int) = some k := by
  unfold ixN
  rw [if_pos (by omega), if_pos (by omega), Int.toNat_natCast]
theorem ixN_last (n : Nat) : ixN (n + 1) (-1) = some n := by
  unfold ixN
  rw [if_neg (by omega), if_pos (by omega)]
  congr 1
  omega
theorem atI_nat (xs : List α) (k : Nat) (h : k < xs.length) : atI xs (k : Int) = xs[k]? := by
  unfold atI
  rw [ixN_nat h]; rfl
theorem atI_of (xs : List α) {i : Int} (h0 : 0 ≤ i) (h : i < xs.length) : atI xs i = xs[i.toNat]? := by
  obtain ⟨k, rfl⟩ := Int.eq_ofNat_of_zero_le h0
  rw [Int.toNat_natCast]
  exact atI_nat xs k (by omega)
theorem atI_last (xs : List α) (x : α) : atI (xs ++ [x]) (-1) = some x := by
  unfold atI
  rw [List.length_append, List.length_singleton, ixN_last]
  simp
theorem atI_0 (x : α) (xs : List α) : atI (x :: xs) 0 = some x := by
  have := atI_nat (x :: xs) 0 (by simp)
  simpa using this
theorem atI_1 (x y : α) (xs : List α) : atI (x :: y :: xs) 1 = some y := by
  have := atI_nat (x :: y :: xs) 1 (by simp)
  simpa using this
theorem atI_2 (x y z : α) (xs : List α) : atI (x :: y :: z :: xs) 2 = some z := by
  have := atI_nat (x :: y :: z :: xs) 2 (by simp)
  simpa using this
theorem atI_3 (x y z u : α) (xs : List α) : atI (x :: y :: z :: u :: xs) 3 = some u := by
  have := atI_nat (x :: y :: z :: u :: xs) 3 (by simp)
  simpa using this
theorem atI_map {β : Type} (f : α → β) (xs : List α) (i : Int) : atI (xs.map f) i = (atI xs i).map f := by
  unfold atI
  rw [List.length_map]
  cases ixN xs.length i <;> simp
theorem set_last (xs : List α) (x y : α) : (xs ++ [x]).set xs.length y = xs ++ [y] := by simp
theorem cutD_init (xs : List α) (x : α) : cutD (xs ++ [x]) none (some (-1)) = xs := by
  unfold cutD HT.sIx
  simp
  have : ((-1 : Int) + ((xs.length : Nat) + 1)).toNat = xs.length := by omega
  rw [this]; simp
theorem cutD_take (xs : List α) {k : Int} (h : 0 ≤ k) : cutD xs none (some k) = xs.take k.toNat := by
  unfold cutD HT.sIx
  simp [Int.not_lt.mpr h]
theorem cutD_drop (xs : List α) {k : Int} (h : 0 ≤ k) : cutD xs (some k) none = xs.drop k.toNat := by
  unfold cutD HT.sIx
  simp [Int.not_lt.mpr h]
  by_cases c : k.toNat ≤ xs.length
  · rw [Nat.min_eq_left c, List.take_of_length_le (by simp)]
  · rw [List.drop_eq_nil_of_le (by omega), List.drop_eq_nil_of_le (by omega)]; simp
end
theorem snoc {α : Type} (l : List α) : l = [] ∨ ∃ L b, l = L ++ [b] := by
  rcases List.eq_nil_or_concat l with h | ⟨L, b, h⟩
  · exact .inl h
  · exact .inr ⟨L, b, by rw [h, List.concat_eq_append]⟩
theorem isEmpty_snoc {α : Type} (l : List α) (x : α) : (l ++ [x]).isEmpty = false := by cases l <;> rfl
theorem gsC_cons (t : DTG) (u : DTGs) (d : PyData) (r : List PyData) (ρ : Sl) (M : Mem) (Q : Sl → Mem → Prop) : gsC t u (d :: r) ρ M Q = t (.val d) ρ M fun ρ' M' => u r ρ' M' Q :=
  propext ⟨fun ⟨_, _, e, h⟩ => by cases e; exact h, fun h => ⟨d, r, rfl, h⟩⟩
theorem gs0_nil (ρ : Sl) (M : Mem) (Q : Sl → Mem → Prop) : gs0 [] ρ M Q = Q ρ M := propext ⟨fun h => h.2, fun h => ⟨rfl, h⟩⟩
/-! shapes -/
def Sh (n : Nat) (d : PyData) : Prop := d.canLay0 = true ∧ d.depth ≤ n
theorem Sh.shaped {n : Nat} {d : PyData} (h : Sh n d) (hn : n ≤ 64) : SeqAt.shaped d = true := by
  unfold SeqAt.shaped
  rw [h.1, Bool.true_and]
  exact decide_eq_true (Nat.le_trans h.2 hn)
theorem Sh.mono {n m : Nat} {d : PyData} (h : Sh n d) (hn : n ≤ m) : Sh m d := ⟨h.1, Nat.le_trans h.2 hn⟩
theorem sh_int {n : Nat} (i : Int) : Sh n (.int i) := ⟨by simp [PyData.canLay0], by simp [PyData.depth]⟩
theorem sh_bool {n : Nat} (i : Bool) : Sh n (.bool i) := ⟨by simp [PyData.canLay0], by simp [PyData.depth]⟩
theorem sh_none {n : Nat} : Sh n .none := ⟨by simp [PyData.canLay0], by simp [PyData.depth]⟩
theorem sh_all {n : Nat} : ∀ {ds : List PyData}, (∀ d ∈ ds, Sh n d) → PyData.canLayAll0 ds = true ∧ PyData.depthAll ds ≤ n
  | [], _ => ⟨by simp [PyData.canLayAll0], by simp [PyData.depthAll]⟩
  | d :: ds, h => by
    obtain ⟨h1, h2⟩ := sh_all (ds := ds) fun d hd => h d (List.mem_cons_of_mem _ hd)
    obtain ⟨h3, h4⟩ := h d List.mem_cons_self
    refine ⟨by rw [PyData.canLayAll0, h1, h3]; rfl, by rw [PyData.depthAll]; omega⟩
theorem sh_tup {n : Nat} {ds : List PyData} (h : ∀ d ∈ ds, Sh n d) : Sh (n + 1) (.tuple ds) := by
  obtain ⟨h1, h2⟩ := sh_all h
  exact ⟨by rw [PyData.canLay0]; exact h1, by rw [PyData.depth]; omega⟩
theorem sh_lst {n : Nat} {ds : List PyData} (h : ∀ d ∈ ds, Sh n d) : Sh (n + 1) (.list ds) := by
  obtain ⟨h1, h2⟩ := sh_all h
  exact ⟨by rw [PyData.canLay0]; exact h1, by rw [PyData.depth]; omega⟩
theorem sh_intL {n : Nat} (ns : List Int) : ∀ d ∈ intL ns, Sh n d := fun d hd => by
  obtain ⟨i, _, rfl⟩ := List.mem_map.mp hd
  exact sh_int i
theorem shp_int (i : Int) : SeqAt.shaped (.int i) = true := (sh_int (n := 0) i).shaped (by decide)
theorem shp_none : SeqAt.shaped .none = true := (sh_none (n := 0)).shaped (by decide)
theorem shp_bool (i : Bool) : SeqAt.shaped (.bool i) = true := (sh_bool (n := 0) i).shaped (by decide)
theorem shp_intL (ns : List Int) : SeqAt.shaped (.list (intL ns)) = true := (sh_lst (n := 0) (sh_intL ns)).shaped (by decide)
theorem shp_intT (ns : List Int) : SeqAt.shaped (.tuple (intL ns)) = true := (sh_tup (n := 0) (sh_intL ns)).shaped (by decide)
theorem shp_nil : SeqAt.shaped (.list []) = true := shp_intL []
theorem eqv_int (i j : Int) : PyData.eqv (.int i) (.int j) = decide (i = j) := by rw [PyData.eqv]; by_cases h : i = j <;> simp [h]
theorem eqv_list_nil (xs : List PyData) : PyData.eqv (.list xs) (.list []) = xs.isEmpty := by
  cases xs <;> simp [PyData.eqv, PyData.eqvAll]
theorem eqvAll_int : ∀ (a b : List Int), PyData.eqvAll (intL a) (intL b) = decide (a = b)
  | [], [] => by simp [PyData.eqvAll]
  | x :: xs, [] => by simp [PyData.eqvAll]
  | [], y :: ys => by simp [PyData.eqvAll]
  | x :: xs, y :: ys => by
    show PyData.eqvAll (.int x :: intL xs) (.int y :: intL ys) = _
    rw [PyData.eqvAll, eqv_int, eqvAll_int xs ys]
    by_cases h : x = y <;> by_cases h2 : xs = ys <;> simp [h, h2]
theorem eqv_intL (a b : List Int) : PyData.eqv (.list (intL a)) (.list (intL b)) = decide (a = b) := by rw [PyData.eqv, eqvAll_int]
theorem eqv_intT (a b : List Int) : PyData.eqv (.tuple (intL a)) (.tuple (intL b)) = decide (a = b) := by rw [PyData.eqv, eqvAll_int]
/-! comprehensions, item by item; P: what is true of each item's value -/
inductive All2 {α β : Type} (P : α → β → Prop) : List α → List β → Prop
  | nil : All2 P [] []
  | cons {a : α} {b : β} {as : List α} {bs : List β} : P a b → All2 P as bs → All2 P (a :: as) (b :: bs)
theorem All2.length {α β : Type} {P : α → β → Prop} : ∀ {as : List α} {bs : List β}, All2 P as bs → as.length = bs.length
  | _, _, .nil => rfl
  | _, _, .cons _ r => congrArg (· + 1) (All2.length r)
theorem All2.map {α β : Type} {f : α → β} : ∀ {as : List α} {bs : List β}, All2 (fun a b => b = f a) as bs → bs = as.map f
  | _, _, .nil => rfl
  | _, _, .cons e r => by rw [List.map_cons, e, All2.map r]
theorem All2.all {α β : Type} {P : α → β → Prop} {R : β → Prop} (h : ∀ a b, P a b → R b) : ∀ {as : List α} {bs : List β}, All2 P as bs → ∀ b ∈ bs, R b
  | _, _, .nil, b, hb => by cases hb
  | _, _, .cons e r, b, hb => by
    rcases List.mem_cons.mp hb with z | hb
    · subst z; exact h _ _ e
    · exact All2.all h r b hb
theorem lcL_any {t : DTG} {tt : DTT} {te : DTE} {ρ : Sl} {C : Mem → Prop} {Q : List PyData → Mem → Prop} {M : Mem} {P : DV → PyData → Prop} (hC : C M) : ∀ (is : List DV) (acc : List PyData), acc.length + is.length ≤ sizeLine →
    (∀ x ∈ is, ∀ (R : PyData → Mem → Prop) (R' : Mem → Prop), (∀ d, P x d → R d M) → t x ρ M fun ρ2 M2 => tt ρ2 M2 (fun b M3 => if b = true then te ρ2 M3 (fun y M4 => asV y fun d => R d M4) (fun _ _ => False) else R' M3) fun _ _ => False) →
    (∀ ds, All2 P is ds → Q (acc ++ ds) M) → lcL t tt te ρ C Q is acc M
  | [], acc, _, _, q => ⟨hC, by have := q [] .nil; rwa [List.append_nil] at this⟩
  | x :: is, acc, hl, h, q => ⟨hC, h x List.mem_cons_self _ _ fun d hd => ⟨by simp at hl; omega, lcL_any hC is (acc ++ [d]) (by simp at hl ⊢; omega) (fun y hy => h y (List.mem_cons_of_mem _ hy)) fun ds hds => by
      have := q (d :: ds) (.cons hd hds)
      rwa [List.append_assoc]⟩⟩
theorem lcL_map {t : DTG} {tt : DTT} {te : DTE} {ρ : Sl} {C : Mem → Prop} {Q : List PyData → Mem → Prop} {M : Mem} (f : DV → PyData) (hC : C M) (is : List DV) (hl : is.length ≤ sizeLine)
    (h : ∀ x ∈ is, ∀ (R : PyData → Mem → Prop) (R' : Mem → Prop), R (f x) M → t x ρ M fun ρ2 M2 => tt ρ2 M2 (fun b M3 => if b = true then te ρ2 M3 (fun y M4 => asV y fun d => R d M4) (fun _ _ => False) else R' M3) fun _ _ => False)
    (q : Q (is.map f) M) : lcL t tt te ρ C Q is [] M :=
  lcL_any (P := fun x d => d = f x) hC is [] (by simpa using hl) (fun x hx R R' k => h x hx R R' (k _ rfl)) fun ds hds => by rw [hds.map]; exact q
theorem lcL_anyOf {α : Type} (g : α → DV) {t : DTG} {tt : DTT} {te : DTE} {ρ : Sl} {C : Mem → Prop} {Q : List PyData → Mem → Prop} {M : Mem} {P : α → PyData → Prop} (hC : C M) : ∀ (is : List α) (acc : List PyData), acc.length + is.length ≤ sizeLine →
    (∀ x ∈ is, ∀ (R : PyData → Mem → Prop) (R' : Mem → Prop), (∀ d, P x d → R d M) → t (g x) ρ M fun ρ2 M2 => tt ρ2 M2 (fun b M3 => if b = true then te ρ2 M3 (fun y M4 => asV y fun d => R d M4) (fun _ _ => False) else R' M3) fun _ _ => False) →
    (∀ ds, All2 P is ds → Q (acc ++ ds) M) → lcL t tt te ρ C Q (is.map g) acc M
  | [], acc, _, _, q => ⟨hC, by have := q [] .nil; rwa [List.append_nil] at this⟩
  | x :: is, acc, hl, h, q => ⟨hC, h x List.mem_cons_self _ _ fun d hd => ⟨by simp at hl; omega, lcL_anyOf g hC is (acc ++ [d]) (by simp at hl ⊢; omega) (fun y hy => h y (List.mem_cons_of_mem _ hy)) fun ds hds => by
      have := q (d :: ds) (.cons hd hds)
      rwa [List.append_assoc]⟩⟩
/-- each item's value is just f's -/
theorem lcL_of {α : Type} (g : α → DV) (f : α → PyData) {t : DTG} {tt : DTT} {te : DTE} {ρ : Sl} {C : Mem → Prop} {Q : List PyData → Mem → Prop} {M : Mem} (hC : C M) (is : List α) (hl : is.length ≤ sizeLine)
    (h : ∀ x ∈ is, ∀ (R : PyData → Mem → Prop) (R' : Mem → Prop), R (f x) M → t (g x) ρ M fun ρ2 M2 => tt ρ2 M2 (fun b M3 => if b = true then te ρ2 M3 (fun y M4 => asV y fun d => R d M4) (fun _ _ => False) else R' M3) fun _ _ => False)
    (q : Q (is.map f) M) : lcL t tt te ρ C Q (is.map g) [] M :=
  lcL_anyOf (P := fun x d => d = f x) g hC is [] (by simpa using hl) (fun x hx R R' k => h x hx R R' (k _ rfl)) fun ds hds => by rw [hds.map]; exact q
theorem log2_small {i : Int} (h0 : 0 ≤ i) (h : i ≤ 4611686018427387904) : i.natAbs.log2 < 1920 := by
  have h2 : i.natAbs < 2 ^ 63 := by
    have e' : (2 : Nat) ^ 63 = 9223372036854775808 := by decide
    rw [e']
    omega
  exact Nat.lt_of_lt_of_le (PySem.Flt.log2_lt_of (by decide) h2) (by decide)
theorem cmul_l {i j : Int} (h0 : -(2 ^ 64) < i) (h : i < 2 ^ 64) : CMulA i j := .inl (.inl ⟨h0, h⟩)
theorem cmul_r {i j : Int} (h0 : -(2 ^ 64) < j) (h : j < 2 ^ 64) : CMulA i j := .inl (.inr ⟨h0, h⟩)
theorem cdiv_of {i j : Int} (h0 : 0 < j) (h : j < 2 ^ 64) : CDivW i j := log2_64 h0 h
theorem flat_rep {α : Type} (n : Nat) (x : α) : (List.replicate n [x]).flatten = List.replicate n x := by
  induction n with
  | zero => rfl
  | succ n ih => rw [List.replicate_succ, List.flatten_cons, ih]; rfl
end DL

set_option Elab.async false
set_option linter.all false
set_option maxRecDepth 100000
set_option maxHeartbeats 4000000
namespace DL
open PySem PySem.Spec PyProof.Rows L2
/-! ### the law at the top -/
def spTop (K : PySem.W.Frag) : Sp := fun vs H Q _ => ∃ (a : Addr) (ns : List Int), vs = [.ref a] ∧ SqL K H a (ns.map V.int) ∧ ns.length ≤ 63 ∧ ∀ H', Q (.bl true) H'
theorem top_of {K : PySem.W.Frag} {W : DSp} (h : ∀ (s : Addr) (ns : List Int), ns.length ≤ 63 → ∀ (Q : DQ) (E : DX), Q (.val (.bool true)) [] → W [.raw (.ref s) (pInts s ns)] [] Q E) (vs : List V) (H : Hp) (Q : VK) (E : XK) (q : spTop K vs H Q E) : liftSp K W vs H Q E := by
  obtain ⟨a, ns, rfl, hS, hl, q⟩ := q
  refine ⟨⟨H, [], []⟩, [], [.raw (.ref a) (pInts a ns)], fun r _ => r = .val (.bool true), fun _ _ => False, ⟨fun _ _ e => e, rfl, fun i as e => by simp at e, fun i as e => by simp at e, fun i j as bs e => by simp at e, fun p hp => by cases hp⟩, .cons ⟨rfl, fun S S' hs z => ?_, hS⟩ .nil, h a ns hl _ _ rfl, fun r M' w' v H' e l s rv => ?_, fun _ _ _ _ _ _ z => z.elim⟩
  · rcases z with (z | ⟨o, z⟩) | z
    · exact .inl (.inl (hs _ _ z))
    · exact .inl (.inr ⟨o, hs _ _ z⟩)
    · exact .inr z
  · subst e
    cases rv
    exact q H'
theorem cx_false {P : Program} {w : World} (H : Hp) (s : Shared) (e : Value) (s' : Shared) (h : L2.CX P w [] H s (fun _ _ _ => False) e s') : False := by
  obtain ⟨_, _, _, _, _, _, _, _, _, _, _, _, z⟩ := h
  exact z
end DL
namespace DL
open PySem PySem.W PySem.Calls PyProof.Rows PySem.HandSPX PySem.Spec L2
/-- what is asked of a class's line in the written part: an own error over an own base over ValueError, its __init__ as DLX tells -/
theorem excT_mk {P : Program} {K : PySem.W.Frag} {h : Heap} {mg : Str → Option Value} {x fld msg qual : Str} {C fI : Addr} (X : K.In h) (G : h.Ns mainGlobals mg)
    {nm q : Str} {N : Addr} {bs bm : List Value} {sn : List Str} {sub : List Value} {ab : Bool} {col : Option Bool} {dd : Option Addr} {m0 m1 m2 m3 m5 : Option Value}
    {oc : Value} {od : Option Addr} {kV doc pm : Value} {an : Option Addr} {cda cc : Addr} {ct : Value} {osl : Array (Option Value)} {p1 p2 q0 q1 q2 q3 q4 q5 q6 q7 q8 q9 r0 r1 r2 r3 : Pos} {ccl : Value} {cdd : Option Addr} {vs : Array Value} {ccs : Array (Option Value)} {file : Str} {tf : Tok} {cl : Value} {cld : Option Addr} {csl : Array (Option Value)}
    (aC : PySem.W.nsIn K mainGlobals x = some (some (.ref C))) (zS : PySem.W.nsIn K mainGlobals "super" = some none) (zT : PySem.W.nsIn K mainGlobals "str" = some none)
    (xL : K.lookup C = some (excClassObj nm q C N bs bm true sn sub ab col dd m0 m1 m2 m3 m5 "ValueError.__new__")) (hbm : refsVE bm = true)
    (hal : PySem.W.alongIn K "__init__" (((Value.ref C :: bm).dropWhile (· != .ref C)).drop 1) = some (some (.builtin "ValueError.__init__")))
    (mro : PySem.W.mroIn K C (.ref C) = some true) (sa : PySem.W.findIn K (.ref C) "__setattr__" = some (some (.builtin "object.__setattr__"))) (noF : PySem.W.findIn K (.ref C) fld = some none) (iC : PySem.W.findIn K (.ref C) "__init__" = some (some (.ref fI)))
    (tC : PySem.W.typeIn K (.ref fI) = some (.type "function")) (kC : PySem.W.keepIn K (.ref C) = true) (exC : PySem.W.subIn K (.ref C) (.type "BaseException") = some true) (vaC : PySem.W.subIn K (.ref C) (.type "ValueError") = some true) (tyC : PySem.W.typeIn K (.ref C) = some (.type "type")) (op : PySem.W.nsIn K PySem.cStatics "thirdparty.any" = some none)
    (lI : K.lookup fI = some ⟨oc, od, .func (PySem.W.ksFn "__init__" qual (DLX.iA fld p1 p2) (DLX.iB msg fld q0 q1 q2 q3 q4 q5 q6 q7 q8 q9 r0 r1 r2 r3) (DLX.iS fld) .none kV doc pm an (.ref cda) ct cc), osl⟩) (cI : PySem.W.codeIn K (.ref cda) qual = true)
    (lc : K.lookup cda = some ⟨ccl, cdd, .fields vs, ccs⟩) (v2 : vs[2]? = some (.str file tf)) (hfile : ((P.main.file : Str) == file) = true) (lcc : K.lookup cc = some ⟨cl, cld, .cell (some (.ref C)), csl⟩)
    (hev : ∀ L a, ∃ pl : Sem Bool, eval (.Call (.Attribute (.Call (.Name "super" q0) [] [] q1) "__init__" q2) [.BinOp (.Constant (.str msg) 0 q3) .Add (.Call (.Name "str" q4) [.Name fld q5] [] q6) q7] [] q8) (PySem.W.ksEnv qual (DLX.iS fld) L a (.ref cda) cc) = (do
      let ov ← attributeBase (.Call (.Name "super" q0) [] [] q1) "__init__" (PySem.W.ksEnv qual (DLX.iS fld) L a (.ref cda) cc) (eval (.Call (.Name "super" q0) [] [] q1) (PySem.W.ksEnv qual (DLX.iS fld) L a (.ref cda) cc))
      standAt q2.atName
      let (f, first) ← holding [ov] (getMethod ov "__init__" pl)
      callWith q8 f first (backTo q8 (starEach [.BinOp (.Constant (.str msg) 0 q3) .Add (.Call (.Name "str" q4) [.Name fld q5] [] q6) q7] (PySem.W.ksEnv qual (DLX.iS fld) L a (.ref cda) cc))) []))
    (bnd : ∀ (b : List Stmt) (kV doc pm : Value) (an : Option Addr) (cdv ct : Value) (cc : Addr) (p1 p2 : Pos) (a u : Value), bindArgs (PySem.W.ksFn "__init__" qual (DLX.iA fld p1 p2) b (DLX.iS fld) .none kV doc pm an cdv ct cc) ⟨[a, u], []⟩ = pure [(("self" : Str), a), (fld, u)])
    (hsup : (P.main.scope.names.lookup ("super" : Str)).isSome = false) (nf : ¬ fld = ("self" : Str)) (nd : (fld == ("__debug__" : Str)) = false) (n1 : ¬ fld = ("super" : Str)) (n2 : ¬ fld = ("str" : Str)) (n3 : ¬ fld = ("__class__" : Str)) (ml : msg.length ≤ 1000)
    (te : PySem.W.exmOne K (.ref C) (.ref C) = some true) (ga : PySem.W.findIn K (.ref C) "__getattribute__" = some (some (.builtin "BaseException.__getattribute__"))) (gg : PySem.W.findIn K (.ref C) "__getattr__" = some none) (hdC : PySem.W.hasDictIn K C = true) :
    ExcT P K mg x fld C where
  gC := PySem.W.mg_of X G aC
  gS := PySem.W.mg_none_of X G zS
  gT := PySem.W.mg_none_of X G zT
  tx := ⟨msg, qual, fI, ⟨⟨nm, q, N, bs, bm, sn, sub, ab, col, dd, m0, m1, m2, m3, m5, xL, hbm, hal⟩, mro, sa, noF, iC, tC, kC, exC, vaC, tyC, op,
    ⟨oc, od, .none, kV, doc, pm, an, cda, cc, ct, osl, p1, p2, q0, q1, q2, q3, q4, q5, q6, q7, q8, q9, r0, r1, r2, r3, ccl, cdd, vs, ccs, file, tf, cl, cld, csl, lI, cI, lc, v2, hfile, lcc, hev⟩, bnd, hsup, nf, nd, n1, n2, n3, ml⟩⟩
  te := te
  ga := ga
  gg := gg
  hdC := hdC
end DL

set_option Elab.async false
set_option linter.all false
set_option maxRecDepth 100000
set_option maxHeartbeats 4000000
namespace DL
open PySem PySem.Spec PyProof.Rows L2
def topS (i : Nat) : Stmt := PySem.Challenge.pw_playrolled_k18_whole_numbers_and_seals.main.body.getD i (.Pass ⟨0, 0, 0, 0⟩)
def c_ALONE : PyData := .int 192
def c_BYTE : PyData := .int 256
def c_CHECK : PyData := .int 3
def c_ROUND : PyData := .int 16777213
def c_STEP : PyData := .int 259
structure Txt (P : Program) (K : PySem.W.Frag) (mg : Str → Option Value) (C : Str → Addr) : Prop where
  n_all : mg "all" = none
  n_bool : mg "bool" = none
  n_int : mg "int" = none
  n_isinstance : mg "isinstance" = none
  n_len : mg "len" = none
  n_list : mg "list" = none
  n_min : mg "min" = none
  n_range : mg "range" = none
  n_str : mg "str" = none
  n_tuple : mg "tuple" = none
  c_ALONE : GlobC K mg "ALONE" c_ALONE
  c_BYTE : GlobC K mg "BYTE" c_BYTE
  c_CHECK : GlobC K mg "CHECK" c_CHECK
  c_ROUND : GlobC K mg "ROUND" c_ROUND
  c_STEP : GlobC K mg "STEP" c_STEP
  x_BadBytes : ExcT P K mg "BadBytes" "place" (C "BadBytes")
section
variable {P : Program} {wd : World} {K : PySem.W.Frag} {mg : Str → Option Value} {base : Heap} {C : Str → Addr}
/-! ### the box: by hand -/
abbrev s__law_box : Stmt := topS 20
theorem sc__law_box : FnScope ["script"] ["script"] (defScope s__law_box) := ⟨rfl, rfl, rfl, by decide +kernel, rfl, by decide +kernel, by decide +kernel⟩
set_option maxHeartbeats 4000000 in
theorem ok__law_box {f : Addr} {fd : FuncData} (F : Fun K "_law_box" "_law_box" s__law_box f fd) (nl : mg "list" = none) (nn : mg "len" = none) : FnOk P wd K mg base (L2.CX P wd) 1 f fd ["script"] (liftSp K W_box) := by
  refine FnOk.imp ?_ fun vs H Q E h => W_box_of vs H Q E h
  refine F.okX (k := 0) sc__law_box (fun vs H Q E ⟨a, ns, e, _⟩ => by rw [e]; rfl) fun cdv A outer s H vs Q E hr h => ⟨_, pss_one (ps_ret (pe_lst (pa_cons (pe_callTy call_list_of rfl nl boot_list (pa_cons (pe_slice sl_list (pe_var (i := 0) rfl (Or.inl rfl)) po_none (po_some pe_int)) pa_nil rfl)) (pa_cons pe_int (pa_cons (pe_op op_add pe_int (pe_callB call_len rfl nn boot_len (pa_cons (pe_var (i := 0) rfl (Or.inl rfl)) pa_nil rfl))) pa_nil rfl) rfl) rfl))), ?_⟩
  obtain ⟨a, ns, rfl, hq, hl, q⟩ := h
  refine ⟨_, rfl, _, rfl, a, _, rfl, hq, fun p hp => ?_⟩
  refine ⟨p, _, rfl, .inl (SqL.of upd_same), fun c hc => ?_⟩
  have hpc : c ≠ p := fun z => by subst z; rw [upd_same] at hc; cases hc
  have hq2 : SqL K (upd (upd H p (.lst (cutV (ns.map V.int) none (some 63)))) c (.lst (cutV (ns.map V.int) none (some 63)))) a (ns.map V.int) := Same.seq (fun x o e => by
    rw [upd_ne (fun z => by subst z; rw [upd_ne hpc] at hc; rw [hc] at e; cases e), upd_ne (ne_of_none e hp)]; exact e) hq
  refine ⟨_, rfl, _, _, rfl, .inl ⟨_, hq2, rfl⟩, _, _, rfl, rfl, by rw [sizeLine_eq]; simp, fun b hb => ?_⟩
  have hbc : b ≠ c := fun z => by subst z; rw [upd_same] at hb; cases hb
  have hbp : b ≠ p := fun z => by subst z; rw [upd_ne hbc, upd_same] at hb; cases hb
  have hbH : H b = none := by rw [upd_ne hbc, upd_ne hbp] at hb; exact hb
  have hcH : H c = none := by rw [upd_ne hpc] at hc; exact hc
  refine q _ b c (cutD ns none (some 63)) 0 _ (fun x o e => ?_) hcH hbH ⟨hbc, upd_same, ?_⟩
  · rw [upd_ne (ne_of_none e hbH), upd_ne (ne_of_none e hcH), upd_ne (ne_of_none e hp)]; exact e
  · rw [upd_ne (Ne.symm hbc), upd_same]
    unfold cutV cutD
    rw [List.length_map, List.map_take, List.map_drop]

abbrev s__law_check : Stmt := topS 25
theorem sc__law_check : FnScope ["data", "made", "byte"] ["data"] (defScope s__law_check) := ⟨rfl, rfl, rfl, by decide +kernel, rfl, by decide +kernel, by decide +kernel⟩
def b__law_check_1 : DTS := dSeq (dAsg (dOp2 pAdd (dOp2 pAdd (dOp2 pMul (dC (.int 259)) (dVar 1)) (dVar 2)) (dC (.int 1))) (gN 1)) (dAsg (dOp2 pSub (dVar 1) (dOp2 pMul (dOp2 pDiv (dVar 1) (dC (.int 16777213))) (dC (.int 16777213)))) (gN 1))
def B__law_check : DTS := dSeq (dAsg (dC (.int 1)) (gN 1)) (dSeq (dFor (dIt (dVar 0)) (gN 2) b__law_check_1) (dRet (dVar 1)))
def W__law_check : DSp := fnD 1 2 (B__law_check)
set_option maxHeartbeats 4000000 in
theorem ok__law_check {f : Addr} {fd : FuncData} (F : Fun K "_law_check" "_law_check" s__law_check f fd) (T : Txt P K mg C) : FnOk P wd K mg base (L2.CX P wd) 1 f fd ["data"] (liftSp K (W__law_check)) := by
  refine fnD_ok (k := 0) F sc__law_check (fun cdv A outer s H E hr => ?_)
  exact (ds_cons (ds_set 1 sc__law_check.nd de_int)
      (ds_cons (ds_for (passes_of rfl) rfl (di_seq (de_var 0)) (dg_name 2 sc__law_check.nd) (ds_cons (ds_set 1 sc__law_check.nd (de_add (de_add (de_mul de_int (de_var 1)) (de_var 2)) de_int))
      (ds_one (ds_set 1 sc__law_check.nd (de_sub (de_var 1) (de_mul (de_div (de_var 1) de_int) de_int))))))
      (ds_one (ds_ret (de_var 1)))))
abbrev s__law_load : Stmt := topS 21
theorem sc__law_load : FnScope ["box", "cells", "cell", "size", "first", "second"] ["box"] (defScope s__law_load) := ⟨rfl, rfl, rfl, by decide +kernel, rfl, by decide +kernel, by decide +kernel⟩
set_option maxHeartbeats 4000000 in
theorem ok__law_load {f : Addr} {fd : FuncData} (F : Fun K "_law_load" "_law_load" s__law_load f fd) (ni : mg "int" = none) (nn : mg "len" = none) : FnOk P wd K mg base (L2.CX P wd) 1 f fd ["box"] spLoad := by
  refine F.okX (k := 0) sc__law_load (fun vs H Q E ⟨a, c, cells, n, k, e, _⟩ => by rw [e]; rfl) fun cdv A outer s H vs Q E hr h => ⟨_, (pss_cons (ps_set (i := 1) sc__law_load.nd rfl (Or.inl rfl) (pe_ix ix_seq (pe_var (i := 0) rfl (Or.inl rfl)) pe_int (fun _ _ => rfl)))
      (pss_cons (ps_if (pt_cmpR op_gt (pe_callB call_len rfl nn boot_len (pa_cons (pe_var (i := 1) rfl (Or.inl rfl)) pa_nil rfl)) pe_int (nomark _)) (pss_cons (ps_set (i := 2) sc__law_load.nd rfl (Or.inl rfl) (pe_callTy call_int1 rfl ni boot_int (pa_cons (pe_bm PySem.F.plainAttrs_list PySem.F.slot_list_pop PySem.F.type_list_pop mt_popAt (pe_var (i := 1) rfl (Or.inl rfl)) (pa_cons pe_int pa_nil rfl)) pa_nil rfl)))
      (pss_cons (ps_set (i := 3) sc__law_load.nd rfl (Or.inl rfl) (pe_ifExp (pt_cmpR op_ge (pe_var (i := 2) rfl (Or.inl rfl)) pe_int (nomark _)) (pe_op op_mul pe_int (pe_var (i := 2) rfl (Or.inl rfl))) (pe_op op_sub (pe_op op_mul (pe_un un_neg pe_int) (pe_var (i := 2) rfl (Or.inl rfl))) pe_int)))
      (pss_cons (ps_if (pt_cmpR op_ge (pe_var (i := 3) rfl (Or.inl rfl)) pe_int (nomark _)) (pss_one (ps_ret (pe_var (i := 3) rfl (Or.inl rfl)))) pss_nil)
      (pss_one (ps_asg (pe_op op_mod (pe_callTy call_int1 rfl ni boot_int (pa_cons (pe_op op_add (pe_op op_add (pe_op op_mul (pe_ix ix_seq (pe_var (i := 0) rfl (Or.inl rfl)) pe_int (fun _ _ => rfl)) pe_int) (pe_op op_mul (pe_var (i := 3) rfl (Or.inl rfl)) pe_int)) pe_int) pa_nil rfl)) pe_int) (pg_sub (pe_var (i := 0) rfl (Or.inl rfl)) pe_int set_list)))))) pss_nil)
      (pss_cons (ps_set (i := 4) sc__law_load.nd rfl (Or.inl rfl) (pe_op op_mod (pe_callTy call_int1 rfl ni boot_int (pa_cons (pe_op op_add (pe_op op_mul (pe_ix ix_seq (pe_var (i := 0) rfl (Or.inl rfl)) pe_int (fun _ _ => rfl)) pe_int) pe_int) pa_nil rfl)) pe_int))
      (pss_cons (ps_set (i := 5) sc__law_load.nd rfl (Or.inl rfl) (pe_op op_mod (pe_callTy call_int1 rfl ni boot_int (pa_cons (pe_op op_add (pe_op op_mul (pe_var (i := 4) rfl (Or.inl rfl)) pe_int) pe_int) pa_nil rfl)) pe_int))
      (pss_cons (ps_asg (pe_op op_mod (pe_callTy call_int1 rfl ni boot_int (pa_cons (pe_op op_add (pe_op op_mul (pe_var (i := 5) rfl (Or.inl rfl)) pe_int) pe_int) pa_nil rfl)) pe_int) (pg_sub (pe_var (i := 0) rfl (Or.inl rfl)) pe_int set_list))
      (pss_one (ps_ret (pe_op op_add (pe_op op_add (pe_op op_mul (pe_var (i := 4) rfl (Or.inl rfl)) pe_int) (pe_op op_mul (pe_var (i := 5) rfl (Or.inl rfl)) pe_int)) (pe_ix ix_seq (pe_var (i := 0) rfl (Or.inl rfl)) pe_int (fun _ _ => rfl)))))))))), ?_⟩
  obtain ⟨a, c, cells, n, k, rfl, b, q⟩ := h
  refine ⟨_, rfl, .inl ⟨a, _, 0, .ref c, rfl, rfl, SqL.of b.ba, rfl, ?_⟩⟩
  refine ⟨_, rfl, _, _, rfl, .inl ⟨_, SqL.of b.ce, rfl⟩, _, _, rfl, rfl, _, rfl, ?_⟩
  cases cells with
  | nil =>
    rw [if_neg (by simp)]
    refine ⟨_, rfl, .inl ⟨a, _, 2, _, rfl, rfl, SqL.of b.ba, rfl, _, _, rfl, rfl, .inr ⟨by decide, by decide⟩, _, _, rfl, rfl, .inl ⟨_, rfl, _, _, rfl, rfl, (by show (0 : Int) < _; decide), ?_⟩⟩⟩
    refine ⟨_, rfl, _, _, rfl, rfl, .inr ⟨by decide, by decide⟩, _, _, rfl, rfl, .inl ⟨_, rfl, _, _, rfl, rfl, (by show (0 : Int) < _; decide), ?_⟩⟩
    refine ⟨_, rfl, _, _, rfl, rfl, .inr ⟨by decide, by decide⟩, _, _, rfl, rfl, .inl ⟨_, rfl, _, _, rfl, rfl, (by show (0 : Int) < _; decide), _, rfl, a, _, 2, 2, rfl, rfl, b.ba, rfl, ?_⟩⟩
    refine ⟨_, rfl, _, _, rfl, rfl, .inr ⟨by decide, by decide⟩, _, rfl, _, _, rfl, rfl, .inr ⟨by decide, by decide⟩, _, _, rfl, rfl, _, rfl, .inl ⟨a, _, 2, _, rfl, rfl, SqL.of upd_same, rfl, _, _, rfl, rfl, ?_⟩⟩
    exact q _ _ ⟨frame_upd (fun _ _ _ => rfl) (.inl rfl), _, _, _, b.box⟩
  | cons z zs =>
    rw [if_pos (by simp)]
    refine ⟨_, rfl, .inl ⟨rfl, _, SqL.of b.ce⟩, c, _, 0, 0, .int z, rfl, rfl, b.ce, by decide, by decide, by rw [List.length_map]; simp [seqIndex?], rfl, .inl ⟨_, rfl, ?_⟩⟩
    have b1 := b.cells (cells' := zs)
    have f1 : ∀ x, x ≠ a → x ≠ c → upd H c (.lst (zs.map V.int)) x = H x := frame_upd (fun _ _ _ => rfl) (.inr rfl)
    refine ⟨_, rfl, _, _, rfl, rfl, _, rfl, ?_⟩
    refine ite2 (fun _ => ?_) (fun _ => ?_)
    · refine ⟨_, rfl, _, _, rfl, rfl, .inl ⟨by decide, by decide⟩, ?_⟩
      refine ⟨_, rfl, _, _, rfl, rfl, _, rfl, ?_⟩
      refine ite2 (fun _ => ⟨_, rfl, q _ _ ⟨f1, _, _, _, b1⟩⟩) (fun _ => ?_)
      refine ⟨_, rfl, .inl ⟨a, _, 2, _, rfl, rfl, SqL.of b1.ba, rfl, _, _, rfl, rfl, .inr ⟨by decide, by decide⟩, _, rfl, _, _, rfl, rfl, .inr ⟨by decide, by decide⟩, _, _, rfl, rfl, _, _, rfl, rfl, .inl ⟨_, rfl, _, _, rfl, rfl, (by show (0 : Int) < _; decide), _, rfl, a, _, 2, 2, rfl, rfl, b1.ba, rfl, ?_⟩⟩⟩
      refine ⟨_, rfl, .inl ⟨a, _, 2, _, rfl, rfl, SqL.of b1.box.ba, rfl, _, _, rfl, rfl, .inr ⟨by decide, by decide⟩, _, _, rfl, rfl, .inl ⟨_, rfl, _, _, rfl, rfl, (by show (0 : Int) < _; decide), ?_⟩⟩⟩
      refine ⟨_, rfl, _, _, rfl, rfl, .inr ⟨by decide, by decide⟩, _, _, rfl, rfl, .inl ⟨_, rfl, _, _, rfl, rfl, (by show (0 : Int) < _; decide), ?_⟩⟩
      refine ⟨_, rfl, _, _, rfl, rfl, .inr ⟨by decide, by decide⟩, _, _, rfl, rfl, .inl ⟨_, rfl, _, _, rfl, rfl, (by show (0 : Int) < _; decide), _, rfl, a, _, 2, 2, rfl, rfl, b1.box.ba, rfl, ?_⟩⟩
      refine ⟨_, rfl, _, _, rfl, rfl, .inr ⟨by decide, by decide⟩, _, rfl, _, _, rfl, rfl, .inr ⟨by decide, by decide⟩, _, _, rfl, rfl, _, rfl, .inl ⟨a, _, 2, _, rfl, rfl, SqL.of upd_same, rfl, _, _, rfl, rfl, ?_⟩⟩
      exact q _ _ ⟨frame_upd (frame_upd f1 (.inl rfl)) (.inl rfl), _, _, _, b1.box.box⟩
    · refine ⟨_, rfl, _, rfl, _, _, rfl, rfl, .inl ⟨by decide, by decide⟩, _, _, rfl, rfl, ?_⟩
      refine ⟨_, rfl, _, _, rfl, rfl, _, rfl, ?_⟩
      refine ite2 (fun _ => ⟨_, rfl, q _ _ ⟨f1, _, _, _, b1⟩⟩) (fun _ => ?_)
      refine ⟨_, rfl, .inl ⟨a, _, 2, _, rfl, rfl, SqL.of b1.ba, rfl, _, _, rfl, rfl, .inr ⟨by decide, by decide⟩, _, rfl, _, _, rfl, rfl, .inr ⟨by decide, by decide⟩, _, _, rfl, rfl, _, _, rfl, rfl, .inl ⟨_, rfl, _, _, rfl, rfl, (by show (0 : Int) < _; decide), _, rfl, a, _, 2, 2, rfl, rfl, b1.ba, rfl, ?_⟩⟩⟩
      refine ⟨_, rfl, .inl ⟨a, _, 2, _, rfl, rfl, SqL.of b1.box.ba, rfl, _, _, rfl, rfl, .inr ⟨by decide, by decide⟩, _, _, rfl, rfl, .inl ⟨_, rfl, _, _, rfl, rfl, (by show (0 : Int) < _; decide), ?_⟩⟩⟩
      refine ⟨_, rfl, _, _, rfl, rfl, .inr ⟨by decide, by decide⟩, _, _, rfl, rfl, .inl ⟨_, rfl, _, _, rfl, rfl, (by show (0 : Int) < _; decide), ?_⟩⟩
      refine ⟨_, rfl, _, _, rfl, rfl, .inr ⟨by decide, by decide⟩, _, _, rfl, rfl, .inl ⟨_, rfl, _, _, rfl, rfl, (by show (0 : Int) < _; decide), _, rfl, a, _, 2, 2, rfl, rfl, b1.box.ba, rfl, ?_⟩⟩
      refine ⟨_, rfl, _, _, rfl, rfl, .inr ⟨by decide, by decide⟩, _, rfl, _, _, rfl, rfl, .inr ⟨by decide, by decide⟩, _, _, rfl, rfl, _, rfl, .inl ⟨a, _, 2, _, rfl, rfl, SqL.of upd_same, rfl, _, _, rfl, rfl, ?_⟩⟩
      exact q _ _ ⟨frame_upd (frame_upd f1 (.inl rfl)) (.inl rfl), _, _, _, b1.box.box⟩


abbrev s__law_draw : Stmt := topS 22
theorem sc__law_draw : FnScope ["box", "many", "digit"] ["box", "many"] (defScope s__law_draw) := ⟨rfl, rfl, rfl, by decide +kernel, rfl, by decide +kernel, by decide +kernel⟩
set_option maxHeartbeats 4000000 in
theorem ok__law_draw {f : Addr} {fd : FuncData} (F : Fun K "_law_draw" "_law_draw" s__law_draw f fd) (ni : mg "int" = none) (G_load : HFn P wd K mg base "_law_load" 1 spLoad) : FnOk P wd K mg base (L2.CX P wd) 2 f fd ["box", "many"] (liftSp K W_draw) := by
  refine FnOk.imp ?_ fun vs H Q E h => W_draw_of vs H Q E h
  obtain ⟨lf, lfd, lps, g1, g2, g3, g4⟩ := G_load
  refine F.okX (k := 1) sc__law_draw (fun vs H Q E ⟨a, c, cells, n, k, many, e, _⟩ => by rw [e]; rfl) fun cdv A outer s H vs Q E hr h => ⟨_, (pss_cons (ps_if (pt_cmpR op_lt (pe_ix ix_seq (pe_var (i := 0) rfl (Or.inl rfl)) pe_int (fun _ _ => rfl)) (pe_var (i := 1) rfl (Or.inl rfl)) (nomark _)) (pss_one (ps_asg (pe_callS g4 (hr.mono (by decide)) rfl g1 g2 g3 (fun σ => passAt (takes_of rfl rfl rfl rfl) σ) (pa_cons (pe_var (i := 0) rfl (Or.inl rfl)) pa_nil rfl)) (pg_sub (pe_var (i := 0) rfl (Or.inl rfl)) pe_int set_list))) pss_nil)
      (pss_cons (ps_set (i := 2) sc__law_draw.nd rfl (Or.inl rfl) (pe_op op_mod (pe_callTy call_int1 rfl ni boot_int (pa_cons (pe_ix ix_seq (pe_var (i := 0) rfl (Or.inl rfl)) pe_int (fun _ _ => rfl)) pa_nil rfl)) (pe_var (i := 1) rfl (Or.inl rfl))))
      (pss_cons (ps_asg (pe_op op_fdivW (pe_ix ix_seq (pe_var (i := 0) rfl (Or.inl rfl)) pe_int (fun _ _ => rfl)) (pe_var (i := 1) rfl (Or.inl rfl))) (pg_sub (pe_var (i := 0) rfl (Or.inl rfl)) pe_int set_list))
      (pss_one (ps_ret (pe_var (i := 2) rfl (Or.inl rfl))))))), ?_⟩
  obtain ⟨a, c, cells, n, k, many, rfl, b, h0, h1, q⟩ := h
  refine ⟨_, rfl, .inl ⟨a, _, 1, .int n, rfl, rfl, SqL.of b.ba, rfl, _, rfl, _, _, rfl, rfl, _, rfl, ?_⟩⟩
  refine ite2 (fun _ => ?_) (fun _ => ?_)
  · refine ⟨_, rfl, a, c, cells, n, k, rfl, b, fun H1 r ⟨f1, cells1, n1, k1, b1⟩ => ?_⟩
    refine ⟨_, rfl, a, _, 1, 1, rfl, rfl, b1.ba, rfl, ?_⟩
    have b2 := b1.box (n' := r) (k' := k1)
    have f2 : ∀ x, x ≠ a → x ≠ c → upd H1 a (.lst [.ref c, .int r, .int k1]) x = H x := frame_upd f1 (.inl rfl)
    refine ⟨_, rfl, .inl ⟨a, _, 1, .int r, rfl, rfl, SqL.of b2.ba, rfl, .inl ⟨_, rfl, _, rfl, _, _, rfl, rfl, h0, ?_⟩⟩⟩
    refine ⟨_, rfl, .inl ⟨a, _, 1, .int r, rfl, rfl, SqL.of b2.ba, rfl, _, rfl, _, _, rfl, rfl, log2_64 h0 h1, _, rfl, a, _, 1, 1, rfl, rfl, b2.ba, rfl, ?_⟩⟩
    exact ⟨_, rfl, q _ _ ⟨frame_upd f2 (.inl rfl), _, _, _, b2.box⟩ (Int.emod_nonneg _ (by omega)) (Int.emod_lt_of_pos _ h0)⟩
  · refine ⟨_, rfl, .inl ⟨a, _, 1, .int n, rfl, rfl, SqL.of b.ba, rfl, .inl ⟨_, rfl, _, rfl, _, _, rfl, rfl, h0, ?_⟩⟩⟩
    refine ⟨_, rfl, .inl ⟨a, _, 1, .int n, rfl, rfl, SqL.of b.ba, rfl, _, rfl, _, _, rfl, rfl, log2_64 h0 h1, _, rfl, a, _, 1, 1, rfl, rfl, b.ba, rfl, ?_⟩⟩
    exact ⟨_, rfl, q _ _ ⟨frame_upd (fun _ _ _ => rfl) (.inl rfl), _, _, _, b.box⟩ (Int.emod_nonneg _ (by omega)) (Int.emod_lt_of_pos _ h0)⟩


abbrev s__law_number : Stmt := topS 24
theorem sc__law_number : FnScope ["number", "digits"] ["number"] (defScope s__law_number) := ⟨rfl, rfl, rfl, by decide +kernel, rfl, by decide +kernel, by decide +kernel⟩
def c__law_number_1 : DTT := dTest (dOp2 pGt (dVar 0) (dC (.int 0)))
def b__law_number_1 : DTS := dPar 1 0 (dCons (dOp2 pAdd (dLst (dCons (dOp2 pSub (dVar 0) (dOp2 pMul (dOp2 pDiv (dVar 0) (dC (.int 256))) (dC (.int 256)))) (dNil))) (dVar 1)) (dCons (dOp2 pDiv (dVar 0) (dC (.int 256))) dNil))
def B__law_number : DTS := dSeq (dIfS (dTest (dOp2 pLt (dVar 0) (dC (.int 192)))) (dRet (dLst (dCons (dVar 0) (dNil)))) (dNext)) (dSeq (dAsg (dLst (dNil)) (gN 1)) (dSeq (dWhile c__law_number_1 b__law_number_1) (dRet (dOp2 pAdd (dLst (dCons (dOp2 pAdd (dC (.int 191)) (dB pLen (dCons (dVar 1) (dNil)))) (dNil))) (dVar 1)))))
def W__law_number : DSp := fnD 1 1 (B__law_number)
set_option maxHeartbeats 4000000 in
theorem ok__law_number {f : Addr} {fd : FuncData} (F : Fun K "_law_number" "_law_number" s__law_number f fd) (T : Txt P K mg C) : FnOk P wd K mg base (L2.CX P wd) 1 f fd ["number"] (liftSp K (W__law_number)) := by
  refine fnD_ok (k := 0) F sc__law_number (fun cdv A outer s H E hr => ?_)
  exact (ds_cons (ds_if (dt_cmp op_lt d2_lt (de_var 0) de_int) (ds_one (ds_ret (de_lst (da_cons (de_var 0) da_nil)))) ds_nil)
      (ds_cons (ds_set 1 sc__law_number.nd (de_lst da_nil))
      (ds_cons (ds_while (passes_of rfl) (dt_cmp op_gt d2_gt (de_var 0) de_int) (ds_one (ds_par 1 0 rfl sc__law_number.nd (da_cons (de_add (de_lst (da_cons (de_sub (de_var 0) (de_mul (de_div (de_var 0) de_int) de_int)) da_nil)) (de_var 1)) (da_cons (de_div (de_var 0) de_int) da_nil)))))
      (ds_one (ds_ret (de_add (de_lst (da_cons (de_add de_int (de_len T.n_len (da_cons (de_var 1) da_nil))) da_nil)) (de_var 1)))))))
abbrev s_byte_at : Stmt := topS 9
theorem sc_byte_at : FnScope ["data", "place"] ["data", "place"] (defScope s_byte_at) := ⟨rfl, rfl, rfl, by decide +kernel, rfl, by decide +kernel, by decide +kernel⟩
def B_byte_at (C : Str → Addr) : DTS := dSeq (dIfS (dTest (dOp2 pGe (dVar 1) (dB pLen (dCons (dVar 0) (dNil))))) (dRaise (dMkX (C "BadBytes") "place" (dB pLen (dCons (dVar 0) (dNil))))) (dNext)) (dRet (dOp2 pIx (dVar 0) (dVar 1)))
def W_byte_at (C : Str → Addr) : DSp := fnD 2 0 (B_byte_at C)
set_option maxHeartbeats 4000000 in
theorem ok_byte_at {f : Addr} {fd : FuncData} (F : Fun K "byte_at" "byte_at" s_byte_at f fd) (T : Txt P K mg C) : FnOk P wd K mg base (L2.CX P wd) 1 f fd ["data", "place"] (liftSp K (W_byte_at C)) := by
  refine fnD_ok (k := 0) F sc_byte_at (fun cdv A outer s H E hr => ?_)
  exact (ds_cons (ds_if (dt_cmp op_ge d2_ge (de_var 1) (de_len T.n_len (da_cons (de_var 0) da_nil))) (ds_one (ds_raise rfl (takes_of rfl rfl rfl rfl) (dmk_own T.x_BadBytes hr (de_len T.n_len (da_cons (de_var 0) da_nil))))) ds_nil)
      (ds_one (ds_ret (de_ix (de_var 0) (de_var 1)))))
abbrev s_read_number : Stmt := topS 11
theorem sc_read_number : FnScope ["data", "place", "first", "many", "found", "k", "byte"] ["data", "place"] (defScope s_read_number) := ⟨rfl, rfl, rfl, by decide +kernel, rfl, by decide +kernel, by decide +kernel⟩
def b_read_number_1 (C : Str → Addr) : DTS := dSeq (dAsg (dCall (W_byte_at C) (dCons (dVar 0) (dCons (dVar 5) (dNil)))) (gN 6)) (dSeq (dIfS (dAnd (dTest (dOp2 pEq (dVar 5) (dOp2 pAdd (dVar 1) (dC (.int 1))))) (dTest (dOp2 pLt (dVar 6) (dIf (dTest (dOp2 pEq (dVar 3) (dC (.int 1)))) (dC c_ALONE) (dC (.int 1)))))) (dRaise (dMkX (C "BadBytes") "place" (dVar 5))) (dNext)) (dAsg (dOp2 pAdd (dOp2 pMul (dVar 4) (dC c_BYTE)) (dVar 6)) (gN 4)))
def B_read_number (C : Str → Addr) : DTS := dSeq (dAsg (dCall (W_byte_at C) (dCons (dVar 0) (dCons (dVar 1) (dNil)))) (gN 2)) (dSeq (dIfS (dTest (dOp2 pLt (dVar 2) (dC c_ALONE))) (dRet (dTup (dCons (dVar 2) (dCons (dOp2 pAdd (dVar 1) (dC (.int 1))) (dNil))))) (dNext)) (dSeq (dPar 3 4 (dCons (dOp2 pAdd (dOp2 pSub (dVar 2) (dC c_ALONE)) (dC (.int 1))) (dCons (dC (.int 0)) dNil))) (dSeq (dFor (dR2 (dCons (dOp2 pAdd (dVar 1) (dC (.int 1))) (dCons (dOp2 pAdd (dOp2 pAdd (dVar 1) (dC (.int 1))) (dVar 3)) (dNil)))) (gN 5) (b_read_number_1 C)) (dRet (dTup (dCons (dVar 4) (dCons (dOp2 pAdd (dOp2 pAdd (dVar 1) (dC (.int 1))) (dVar 3)) (dNil))))))))
def W_read_number (C : Str → Addr) : DSp := fnD 2 5 (B_read_number C)
set_option maxHeartbeats 4000000 in
theorem ok_read_number {f : Addr} {fd : FuncData} (F : Fun K "read_number" "read_number" s_read_number f fd) (T : Txt P K mg C) (G_byte_at : DFn P wd K mg base "byte_at" 1 (W_byte_at C)) : FnOk P wd K mg base (L2.CX P wd) 2 f fd ["data", "place"] (liftSp K (W_read_number C)) := by
  refine fnD_ok (k := 1) F sc_read_number (fun cdv A outer s H E hr => ?_)
  exact (ds_cons (ds_set 2 sc_read_number.nd (de_call G_byte_at hr (takes_of rfl rfl rfl rfl) (da_cons (de_var 0) (da_cons (de_var 1) da_nil))))
      (ds_cons (ds_if (dt_cmp op_lt d2_lt (de_var 2) (de_glob T.c_ALONE)) (ds_one (ds_ret (de_tup (da_cons (de_var 2) (da_cons (de_add (de_var 1) de_int) da_nil))))) ds_nil)
      (ds_cons (ds_par 3 4 rfl sc_read_number.nd (da_cons (de_add (de_sub (de_var 2) (de_glob T.c_ALONE)) de_int) (da_cons de_int da_nil)))
      (ds_cons (ds_for (passes_of rfl) rfl (di_range2 T.n_range (da_cons (de_add (de_var 1) de_int) (da_cons (de_add (de_add (de_var 1) de_int) (de_var 3)) da_nil))) (dg_name 5 sc_read_number.nd) (ds_cons (ds_set 6 sc_read_number.nd (de_call G_byte_at hr (takes_of rfl rfl rfl rfl) (da_cons (de_var 0) (da_cons (de_var 5) da_nil))))
      (ds_cons (ds_if (DW.dt (dw_and (dt_cmp (op_eqD (u64 hr)) d2_eq (de_var 5) (de_add (de_var 1) de_int)) (dw_and1 (dt_cmp op_lt d2_lt (de_var 6) (de_if (dt_cmp (op_eqD (u64 hr)) d2_eq (de_var 3) de_int) (de_glob T.c_ALONE) de_int))))) (ds_one (ds_raise rfl (takes_of rfl rfl rfl rfl) (dmk_own T.x_BadBytes hr (de_var 5)))) ds_nil)
      (ds_one (ds_set 4 sc_read_number.nd (de_add (de_mul (de_var 4) (de_glob T.c_BYTE)) (de_var 6)))))))
      (ds_one (ds_ret (de_tup (da_cons (de_var 4) (da_cons (de_add (de_add (de_var 1) de_int) (de_var 3)) da_nil)))))))))
abbrev s_check_of : Stmt := topS 16
theorem sc_check_of : FnScope ["data", "found", "byte"] ["data"] (defScope s_check_of) := ⟨rfl, rfl, rfl, by decide +kernel, rfl, by decide +kernel, by decide +kernel⟩
def b_check_of_1 : DTS := dAsg (dOp2 pMod (dOp2 pAdd (dOp2 pAdd (dOp2 pMul (dVar 1) (dC c_STEP)) (dVar 2)) (dC (.int 1))) (dC c_ROUND)) (gN 1)
def B_check_of : DTS := dSeq (dAsg (dC (.int 1)) (gN 1)) (dSeq (dFor (dIt (dVar 0)) (gN 2) b_check_of_1) (dRet (dVar 1)))
def W_check_of : DSp := fnD 1 2 (B_check_of)
set_option maxHeartbeats 4000000 in
theorem ok_check_of {f : Addr} {fd : FuncData} (F : Fun K "check_of" "check_of" s_check_of f fd) (T : Txt P K mg C) : FnOk P wd K mg base (L2.CX P wd) 1 f fd ["data"] (liftSp K (W_check_of)) := by
  refine fnD_ok (k := 0) F sc_check_of (fun cdv A outer s H E hr => ?_)
  exact (ds_cons (ds_set 1 sc_check_of.nd de_int)
      (ds_cons (ds_for (passes_of rfl) rfl (di_seq (de_var 0)) (dg_name 2 sc_check_of.nd) (ds_one (ds_set 1 sc_check_of.nd (de_mod (de_add (de_add (de_mul (de_var 1) (de_glob T.c_STEP)) (de_var 2)) de_int) (de_glob T.c_ROUND)))))
      (ds_one (ds_ret (de_var 1)))))
abbrev s_number_bytes : Stmt := topS 10
theorem sc_number_bytes : FnScope ["number", "found"] ["number"] (defScope s_number_bytes) := ⟨rfl, rfl, rfl, by decide +kernel, rfl, by decide +kernel, by decide +kernel⟩
def c_number_bytes_1 : DTT := dTest (dOp2 pGt (dVar 0) (dC (.int 0)))
def b_number_bytes_1 : DTS := dSeq (dAsg (dOp2 pAdd (dLst (dCons (dOp2 pMod (dVar 0) (dC c_BYTE)) (dNil))) (dVar 1)) (gN 1)) (dAsg (dOp2 pDiv (dVar 0) (dC c_BYTE)) (gN 0))
def B_number_bytes : DTS := dSeq (dIfS (dTest (dOp2 pLt (dVar 0) (dC c_ALONE))) (dRet (dLst (dCons (dVar 0) (dNil)))) (dNext)) (dSeq (dAsg (dLst (dNil)) (gN 1)) (dSeq (dWhile c_number_bytes_1 b_number_bytes_1) (dRet (dOp2 pAdd (dLst (dCons (dOp2 pAdd (dOp2 pSub (dC c_ALONE) (dC (.int 1))) (dB pLen (dCons (dVar 1) (dNil)))) (dNil))) (dVar 1)))))
def W_number_bytes : DSp := fnD 1 1 (B_number_bytes)
set_option maxHeartbeats 4000000 in
theorem ok_number_bytes {f : Addr} {fd : FuncData} (F : Fun K "number_bytes" "number_bytes" s_number_bytes f fd) (T : Txt P K mg C) : FnOk P wd K mg base (L2.CX P wd) 1 f fd ["number"] (liftSp K (W_number_bytes)) := by
  refine fnD_ok (k := 0) F sc_number_bytes (fun cdv A outer s H E hr => ?_)
  exact (ds_cons (ds_if (dt_cmp op_lt d2_lt (de_var 0) (de_glob T.c_ALONE)) (ds_one (ds_ret (de_lst (da_cons (de_var 0) da_nil)))) ds_nil)
      (ds_cons (ds_set 1 sc_number_bytes.nd (de_lst da_nil))
      (ds_cons (ds_while (passes_of rfl) (dt_cmp op_gt d2_gt (de_var 0) de_int) (ds_cons (ds_set 1 sc_number_bytes.nd (de_add (de_lst (da_cons (de_mod (de_var 0) (de_glob T.c_BYTE)) da_nil)) (de_var 1)))
      (ds_one (ds_set 0 sc_number_bytes.nd (de_div (de_var 0) (de_glob T.c_BYTE))))))
      (ds_one (ds_ret (de_add (de_lst (da_cons (de_add (de_sub (de_glob T.c_ALONE) de_int) (de_len T.n_len (da_cons (de_var 1) da_nil))) da_nil)) (de_var 1)))))))
abbrev s_sealed : Stmt := topS 17
theorem sc_sealed : FnScope ["data", "check"] ["data"] (defScope s_sealed) := ⟨rfl, rfl, rfl, by decide +kernel, rfl, by decide +kernel, by decide +kernel⟩
def B_sealed : DTS := dSeq (dAsg (dCall W_check_of (dCons (dVar 0) (dNil))) (gN 1)) (dRet (dOp2 pAdd (dOp2 pAdd (dB pTupleOf (dCons (dCall W_number_bytes (dCons (dB pLen (dCons (dVar 0) (dNil))) (dNil))) (dNil))) (dB pTupleOf (dCons (dVar 0) (dNil)))) (dTup (dCons (dOp2 pDiv (dVar 1) (dC (.int 65536))) (dCons (dOp2 pMod (dOp2 pDiv (dVar 1) (dC c_BYTE)) (dC c_BYTE)) (dCons (dOp2 pMod (dVar 1) (dC c_BYTE)) (dNil)))))))
def W_sealed : DSp := fnD 1 1 (B_sealed)
set_option maxHeartbeats 4000000 in
theorem ok_sealed {f : Addr} {fd : FuncData} (F : Fun K "sealed" "sealed" s_sealed f fd) (T : Txt P K mg C) (G_check_of : DFn P wd K mg base "check_of" 1 W_check_of) (G_number_bytes : DFn P wd K mg base "number_bytes" 1 W_number_bytes) : FnOk P wd K mg base (L2.CX P wd) 2 f fd ["data"] (liftSp K (W_sealed)) := by
  refine fnD_ok (k := 1) F sc_sealed (fun cdv A outer s H E hr => ?_)
  exact (ds_cons (ds_set 1 sc_sealed.nd (de_call G_check_of hr (takes_of rfl rfl rfl rfl) (da_cons (de_var 0) da_nil)))
      (ds_one (ds_ret (de_add (de_add (de_tupleOf T.n_tuple (da_cons (de_call G_number_bytes hr (takes_of rfl rfl rfl rfl) (da_cons (de_len T.n_len (da_cons (de_var 0) da_nil)) da_nil)) da_nil)) (de_tupleOf T.n_tuple (da_cons (de_var 0) da_nil))) (de_tup (da_cons (de_div (de_var 1) de_int) (da_cons (de_mod (de_div (de_var 1) (de_glob T.c_BYTE)) (de_glob T.c_BYTE)) (da_cons (de_mod (de_var 1) (de_glob T.c_BYTE)) da_nil))))))))
abbrev s_opened : Stmt := topS 18
theorem sc_opened : FnScope ["data", "length", "place", "behind", "inside"] ["data"] (defScope s_opened) := ⟨rfl, rfl, rfl, by decide +kernel, rfl, by decide +kernel, by decide +kernel⟩
def B_opened (C : Str → Addr) : DTS := dSeq (dAsg (dCall (W_read_number C) (dCons (dVar 0) (dCons (dC (.int 0)) (dNil)))) (gT 2 (gsC (gN 1) (gsC (gN 2) (gs0))))) (dSeq (dAsg (dOp2 pAdd (dVar 2) (dVar 1)) (gN 3)) (dSeq (dIfS (dTest (dOp2 pNe (dB pLen (dCons (dVar 0) (dNil))) (dOp2 pAdd (dVar 3) (dC c_CHECK)))) (dRaise (dMkX (C "BadBytes") "place" (dB pMin (dCons (dB pLen (dCons (dVar 0) (dNil))) (dCons (dOp2 pAdd (dVar 3) (dC c_CHECK)) (dNil)))))) (dNext)) (dSeq (dAsg (dSl (dVar 0) (dPart (dVar 2)) (dPart (dVar 3))) (gN 4)) (dSeq (dIfS (dTest (dOp2 pNe (dCall W_sealed (dCons (dVar 4) (dNil))) (dVar 0))) (dRaise (dMkX (C "BadBytes") "place" (dVar 3))) (dNext)) (dRet (dVar 4))))))
def W_opened (C : Str → Addr) : DSp := fnD 1 4 (B_opened C)
set_option maxHeartbeats 4000000 in
theorem ok_opened {f : Addr} {fd : FuncData} (F : Fun K "opened" "opened" s_opened f fd) (T : Txt P K mg C) (G_read_number : DFn P wd K mg base "read_number" 2 (W_read_number C)) (G_sealed : DFn P wd K mg base "sealed" 2 W_sealed) : FnOk P wd K mg base (L2.CX P wd) 3 f fd ["data"] (liftSp K (W_opened C)) := by
  refine fnD_ok (k := 2) F sc_opened (fun cdv A outer s H E hr => ?_)
  exact (ds_cons (ds_asg (de_call G_read_number hr (takes_of rfl rfl rfl rfl) (da_cons (de_var 0) (da_cons de_int da_nil))) (dg_tup rfl (dgs_cons (dg_name 1 sc_opened.nd) (dgs_cons (dg_name 2 sc_opened.nd) dgs_nil))))
      (ds_cons (ds_set 3 sc_opened.nd (de_add (de_var 2) (de_var 1)))
      (ds_cons (ds_if (dt_cmp (op_neD (u64 hr)) d2_ne (de_len T.n_len (da_cons (de_var 0) da_nil)) (de_add (de_var 3) (de_glob T.c_CHECK))) (ds_one (ds_raise rfl (takes_of rfl rfl rfl rfl) (dmk_own T.x_BadBytes hr (de_min rfl T.n_min (da_cons (de_len T.n_len (da_cons (de_var 0) da_nil)) (da_cons (de_add (de_var 3) (de_glob T.c_CHECK)) da_nil)))))) ds_nil)
      (ds_cons (ds_set 4 sc_opened.nd (de_sl (de_var 0) (do_some (de_var 2)) (do_some (de_var 3))))
      (ds_cons (ds_if (dt_cmp (op_neD (u64 hr)) d2_ne (de_call G_sealed hr (takes_of rfl rfl rfl rfl) (da_cons (de_var 4) da_nil)) (de_var 0)) (ds_one (ds_raise rfl (takes_of rfl rfl rfl rfl) (dmk_own T.x_BadBytes hr (de_var 3)))) ds_nil)
      (ds_one (ds_ret (de_var 4))))))))
abbrev s__law_opened : Stmt := topS 29
theorem sc__law_opened : FnScope ["data", "told", "bad", "error"] ["data"] (defScope s__law_opened) := ⟨rfl, rfl, rfl, by decide +kernel, rfl, by decide +kernel, by decide +kernel⟩
def B__law_opened (C : Str → Addr) : DTS := dSeq (dAsg (dTup (dCons (dC .none) (dCons (dC .none) (dNil)))) (gT 2 (gsC (gN 1) (gsC (gN 2) (gs0))))) (dSeq (dTryAs (mOne (C "BadBytes")) 3 (dAsg (dCall (W_opened C) (dCons (dVar 0) (dNil))) (gN 1)) (fun a d => dAsg (dXf a d "place" 3) (gN 2))) (dRet (dTup (dCons (dVar 1) (dCons (dVar 2) (dNil))))))
def W__law_opened (C : Str → Addr) : DSp := fnD 1 3 (B__law_opened C)
set_option maxHeartbeats 4000000 in
theorem ok__law_opened {f : Addr} {fd : FuncData} (F : Fun K "_law_opened" "_law_opened" s__law_opened f fd) (T : Txt P K mg C) (G_opened : DFn P wd K mg base "opened" 3 (W_opened C)) : FnOk P wd K mg base (L2.CX P wd) 4 f fd ["data"] (liftSp K (W__law_opened C)) := by
  refine fnD_ok (k := 3) F sc__law_opened (fun cdv A outer s H E hr => ?_)
  exact (ds_cons (ds_asg (de_tup (da_cons de_non (da_cons de_non da_nil))) (dg_tup rfl (dgs_cons (dg_name 1 sc__law_opened.nd) (dgs_cons (dg_name 2 sc__law_opened.nd) dgs_nil))))
      (ds_cons (ds_tryAs 3 rfl rfl sc__law_opened.nd ⟨rfl, by decide, .inl T.x_BadBytes.gC⟩ (mOne_ok T.x_BadBytes.te) (takes_of rfl rfl rfl rfl) (fun W' pn xe tk' hp' => (ds_one (ds_set 1 sc__law_opened.nd (de_call G_opened hr tk' (da_cons (de_var 0) da_nil))))) (fun a oe C' d pn e hz hf => by obtain rfl := mOne_eq e; exact (ds_one (ds_set 2 sc__law_opened.nd (de_xf 3 T.x_BadBytes.xf T.x_BadBytes.nof hz hf)))))
      (ds_one (ds_ret (de_tup (da_cons (de_var 1) (da_cons (de_var 2) da_nil)))))))
abbrev s__law_place : Stmt := topS 27
theorem sc__law_place : FnScope ["data", "place", "many"] ["data", "place"] (defScope s__law_place) := ⟨rfl, rfl, rfl, by decide +kernel, rfl, by decide +kernel, by decide +kernel⟩
def B__law_place : DTS := dSeq (dIfS (dTest (dOp2 pGe (dVar 1) (dB pLen (dCons (dVar 0) (dNil))))) (dRet (dB pLen (dCons (dVar 0) (dNil)))) (dNext)) (dSeq (dIfS (dTest (dOp2 pLt (dOp2 pIx (dVar 0) (dVar 1)) (dC (.int 192)))) (dRet (dC .none)) (dNext)) (dSeq (dAsg (dOp2 pSub (dOp2 pIx (dVar 0) (dVar 1)) (dC (.int 191))) (gN 2)) (dSeq (dIfS (dAnd (dTest (dOp2 pLt (dOp2 pAdd (dVar 1) (dC (.int 1))) (dB pLen (dCons (dVar 0) (dNil))))) (dTest (dOp2 pLt (dOp2 pIx (dVar 0) (dOp2 pAdd (dVar 1) (dC (.int 1)))) (dIf (dTest (dOp2 pEq (dVar 2) (dC (.int 1)))) (dC (.int 192)) (dC (.int 1)))))) (dRet (dOp2 pAdd (dVar 1) (dC (.int 1)))) (dNext)) (dRet (dIf (dTest (dOp2 pGt (dOp2 pAdd (dOp2 pAdd (dVar 1) (dC (.int 1))) (dVar 2)) (dB pLen (dCons (dVar 0) (dNil))))) (dB pLen (dCons (dVar 0) (dNil))) (dC .none))))))
def W__law_place : DSp := fnD 2 1 (B__law_place)
set_option maxHeartbeats 4000000 in
theorem ok__law_place {f : Addr} {fd : FuncData} (F : Fun K "_law_place" "_law_place" s__law_place f fd) (T : Txt P K mg C) : FnOk P wd K mg base (L2.CX P wd) 1 f fd ["data", "place"] (liftSp K (W__law_place)) := by
  refine fnD_ok (k := 0) F sc__law_place (fun cdv A outer s H E hr => ?_)
  exact (ds_cons (ds_if (dt_cmp op_ge d2_ge (de_var 1) (de_len T.n_len (da_cons (de_var 0) da_nil))) (ds_one (ds_ret (de_len T.n_len (da_cons (de_var 0) da_nil)))) ds_nil)
      (ds_cons (ds_if (dt_cmp op_lt d2_lt (de_ix (de_var 0) (de_var 1)) de_int) (ds_one (ds_ret de_non)) ds_nil)
      (ds_cons (ds_set 2 sc__law_place.nd (de_sub (de_ix (de_var 0) (de_var 1)) de_int))
      (ds_cons (ds_if (DW.dt (dw_and (dt_cmp op_lt d2_lt (de_add (de_var 1) de_int) (de_len T.n_len (da_cons (de_var 0) da_nil))) (dw_and1 (dt_cmp op_lt d2_lt (de_ix (de_var 0) (de_add (de_var 1) de_int)) (de_if (dt_cmp (op_eqD (u64 hr)) d2_eq (de_var 2) de_int) de_int de_int))))) (ds_one (ds_ret (de_add (de_var 1) de_int))) ds_nil)
      (ds_one (ds_ret (de_if (dt_cmp op_gt d2_gt (de_add (de_add (de_var 1) de_int) (de_var 2)) (de_len T.n_len (da_cons (de_var 0) da_nil))) (de_len T.n_len (da_cons (de_var 0) da_nil)) de_non)))))))
abbrev s__law_read : Stmt := topS 28
theorem sc__law_read : FnScope ["data", "place", "told", "bad", "error"] ["data", "place"] (defScope s__law_read) := ⟨rfl, rfl, rfl, by decide +kernel, rfl, by decide +kernel, by decide +kernel⟩
def B__law_read (C : Str → Addr) : DTS := dSeq (dAsg (dTup (dCons (dC .none) (dCons (dC .none) (dNil)))) (gT 2 (gsC (gN 2) (gsC (gN 3) (gs0))))) (dSeq (dTryAs (mOne (C "BadBytes")) 4 (dAsg (dCall (W_read_number C) (dCons (dVar 0) (dCons (dVar 1) (dNil)))) (gN 2)) (fun a d => dAsg (dXf a d "place" 4) (gN 3))) (dRet (dTup (dCons (dVar 2) (dCons (dVar 3) (dNil))))))
def W__law_read (C : Str → Addr) : DSp := fnD 2 3 (B__law_read C)
set_option maxHeartbeats 4000000 in
theorem ok__law_read {f : Addr} {fd : FuncData} (F : Fun K "_law_read" "_law_read" s__law_read f fd) (T : Txt P K mg C) (G_read_number : DFn P wd K mg base "read_number" 2 (W_read_number C)) : FnOk P wd K mg base (L2.CX P wd) 3 f fd ["data", "place"] (liftSp K (W__law_read C)) := by
  refine fnD_ok (k := 2) F sc__law_read (fun cdv A outer s H E hr => ?_)
  exact (ds_cons (ds_asg (de_tup (da_cons de_non (da_cons de_non da_nil))) (dg_tup rfl (dgs_cons (dg_name 2 sc__law_read.nd) (dgs_cons (dg_name 3 sc__law_read.nd) dgs_nil))))
      (ds_cons (ds_tryAs 4 rfl rfl sc__law_read.nd ⟨rfl, by decide, .inl T.x_BadBytes.gC⟩ (mOne_ok T.x_BadBytes.te) (takes_of rfl rfl rfl rfl) (fun W' pn xe tk' hp' => (ds_one (ds_set 2 sc__law_read.nd (de_call G_read_number hr tk' (da_cons (de_var 0) (da_cons (de_var 1) da_nil)))))) (fun a oe C' d pn e hz hf => by obtain rfl := mOne_eq e; exact (ds_one (ds_set 3 sc__law_read.nd (de_xf 4 T.x_BadBytes.xf T.x_BadBytes.nof hz hf)))))
      (ds_one (ds_ret (de_tup (da_cons (de_var 2) (da_cons (de_var 3) da_nil)))))))
abbrev s__law_refused : Stmt := topS 30
theorem sc__law_refused : FnScope ["data", "told", "bad"] ["data"] (defScope s__law_refused) := ⟨rfl, rfl, rfl, by decide +kernel, rfl, by decide +kernel, by decide +kernel⟩
def B__law_refused (C : Str → Addr) : DTS := dSeq (dAsg (dCall (W__law_opened C) (dCons (dVar 0) (dNil))) (gT 2 (gsC (gN 1) (gsC (gN 2) (gs0))))) (dRet (dAndV (dOp2 pIsN (dVar 1) (dC .none)) (dAndV (dIs .int (dVar 2)) (dChain pLe pLe (dC (.int 0)) (dVar 2) (dB pLen (dCons (dVar 0) (dNil)))))))
def W__law_refused (C : Str → Addr) : DSp := fnD 1 2 (B__law_refused C)
set_option maxHeartbeats 4000000 in
theorem ok__law_refused {f : Addr} {fd : FuncData} (F : Fun K "_law_refused" "_law_refused" s__law_refused f fd) (T : Txt P K mg C) (G__law_opened : DFn P wd K mg base "_law_opened" 4 (W__law_opened C)) : FnOk P wd K mg base (L2.CX P wd) 5 f fd ["data"] (liftSp K (W__law_refused C)) := by
  refine fnD_ok (k := 4) F sc__law_refused (fun cdv A outer s H E hr => ?_)
  exact (ds_cons (ds_asg (de_call G__law_opened hr (takes_of rfl rfl rfl rfl) (da_cons (de_var 0) da_nil)) (dg_tup rfl (dgs_cons (dg_name 1 sc__law_refused.nd) (dgs_cons (dg_name 2 sc__law_refused.nd) dgs_nil))))
      (ds_one (ds_ret (de_and (de_cmp op_isN d2_isN (de_var 1) de_non) (de_and (de_is .int boot_is_int T.n_isinstance T.n_int (de_var 2)) (de_one (de_chain op_le op_le d2_le d2_le de_int (de_var 2) (de_len T.n_len (da_cons (de_var 0) da_nil)))))))))
abbrev s__law_same : Stmt := topS 23
theorem sc__law_same : FnScope ["a", "b", "k"] ["a", "b"] (defScope s__law_same) := ⟨rfl, rfl, rfl, by decide +kernel, rfl, by decide +kernel, by decide +kernel⟩
def x__law_same_1 (Wr : DSp) : DTE := dCall Wr (dCons (dOp2 pIx (dVar 0) (dVar 2)) (dCons (dOp2 pIx (dVar 1) (dVar 2)) (dNil)))
def B__law_same (Wr : DSp) : DTS := dSeq (dIfS (dOr (dAnd (dTruth (dIs .tuple (dVar 0))) (dTruth (dIs .tuple (dVar 1)))) (dAnd (dTruth (dIs .list (dVar 0))) (dTruth (dIs .list (dVar 1))))) (dRet (dAndV (dOp2 pEq (dB pLen (dCons (dVar 0) (dNil))) (dB pLen (dCons (dVar 1) (dNil)))) (dB pAll (dCons (dLc (dR1 (dCons (dB pLen (dCons (dVar 0) (dNil))) (dNil))) (gN 2) (dYes) ((x__law_same_1 Wr)) [2]) (dNil))))) (dNext)) (dSeq (dIfS (dOr (dTruth (dIs .bool (dVar 0))) (dTruth (dIs .bool (dVar 1)))) (dRet (dAndV (dIs .bool (dVar 0)) (dAndV (dIs .bool (dVar 1)) (dOp2 pEq (dVar 0) (dVar 1))))) (dNext)) (dSeq (dIfS (dOr (dAnd (dTruth (dIs .int (dVar 0))) (dTruth (dIs .int (dVar 1)))) (dAnd (dTruth (dIs .str (dVar 0))) (dTruth (dIs .str (dVar 1))))) (dRet (dOp2 pEq (dVar 0) (dVar 1))) (dNext)) (dRet (dAndV (dOp2 pIsN (dVar 0) (dC .none)) (dOp2 pIsN (dVar 1) (dC .none))))))
def W__law_same : Nat → DSp
  | 0 => fun _ _ _ _ => False
  | n + 1 => fnD 2 1 (B__law_same (W__law_same n))
set_option maxHeartbeats 4000000 in
theorem ok__law_same {f : Addr} {fd : FuncData} (F : Fun K "_law_same" "_law_same" s__law_same f fd) (T : Txt P K mg C) (hb : Binds K fd ["a", "b"] []) (hg : mg "_law_same" = some (.ref f)) (hk : PySem.W.keepIn K (.ref f) = true) : ∀ n, FnOk P wd K mg base (L2.CX P wd) (0 + n) f fd ["a", "b"] (liftSp K (W__law_same n))
  | 0 => ⟨fun vs H Q E ⟨_, _, _, _, _, _, _, h, _⟩ => h.elim, fun A outer s H args us vs Q E hr he hb hv ⟨_, _, _, _, _, _, _, h, _⟩ => h.elim⟩
  | n + 1 => by
    have G__law_same : DFn P wd K mg base "_law_same" (0 + n) (W__law_same n) := ⟨f, fd, ["a", "b"], hg, hk, hb, ok__law_same F T hb hg hk  n⟩
    refine fnD_ok (k := 0 + n) F sc__law_same (fun cdv A outer s H E hr => ?_)
    exact (ds_cons (ds_if (DW.dt (dw_or (DW.dt (dw_and (dt_truth (de_is .tuple boot_is_tuple T.n_isinstance T.n_tuple (de_var 0))) (dw_and1 (dt_truth (de_is .tuple boot_is_tuple T.n_isinstance T.n_tuple (de_var 1)))))) (dw_or1 (DW.dt (dw_and (dt_truth (de_is .list boot_is_list T.n_isinstance T.n_list (de_var 0))) (dw_and1 (dt_truth (de_is .list boot_is_list T.n_isinstance T.n_list (de_var 1))))))))) (ds_one (ds_ret (de_and (de_cmp (op_eqD (u64 hr)) d2_eq (de_len T.n_len (da_cons (de_var 0) da_nil)) (de_len T.n_len (da_cons (de_var 1) da_nil))) (de_one (de_all rfl T.n_all (da_cons (de_lc (own := [("k", 2)]) rfl sc__law_same.nd (di_range1 T.n_range (da_cons (de_len T.n_len (da_cons (de_var 0) da_nil)) da_nil)) (blkOk_by (by kernel_rfl)) (gc_name (by decide)) (fun _ _ _ _ _ => (pg_name (i := 2) sc__law_same.nd rfl (by first | exact Or.inl rfl | exact Or.inr rfl))) (fun _ _ _ _ _ => dts_nil) (fun _ _ _ _ _ => (de_call (hj := Nat.le_refl _) G__law_same hr takes0 (da_cons (de_ix (de_var 0) (de_var 2)) (da_cons (de_ix (de_var 1) (de_var 2)) da_nil))))) da_nil)))))) ds_nil)
      (ds_cons (ds_if (DW.dt (dw_or (dt_truth (de_is .bool boot_is_bool T.n_isinstance T.n_bool (de_var 0))) (dw_or1 (dt_truth (de_is .bool boot_is_bool T.n_isinstance T.n_bool (de_var 1)))))) (ds_one (ds_ret (de_and (de_is .bool boot_is_bool T.n_isinstance T.n_bool (de_var 0)) (de_and (de_is .bool boot_is_bool T.n_isinstance T.n_bool (de_var 1)) (de_one (de_cmp (op_eqD (u64 hr)) d2_eq (de_var 0) (de_var 1))))))) ds_nil)
      (ds_cons (ds_if (DW.dt (dw_or (DW.dt (dw_and (dt_truth (de_is .int boot_is_int T.n_isinstance T.n_int (de_var 0))) (dw_and1 (dt_truth (de_is .int boot_is_int T.n_isinstance T.n_int (de_var 1)))))) (dw_or1 (DW.dt (dw_and (dt_truth (de_is .str boot_is_str T.n_isinstance T.n_str (de_var 0))) (dw_and1 (dt_truth (de_is .str boot_is_str T.n_isinstance T.n_str (de_var 1))))))))) (ds_one (ds_ret (de_cmp (op_eqD (u64 hr)) d2_eq (de_var 0) (de_var 1)))) ds_nil)
      (ds_one (ds_ret (de_and (de_cmp op_isN d2_isN (de_var 0) de_non) (de_one (de_cmp op_isN d2_isN (de_var 1) de_non))))))))
abbrev s__law_seal : Stmt := topS 26
theorem sc__law_seal : FnScope ["data", "check"] ["data"] (defScope s__law_seal) := ⟨rfl, rfl, rfl, by decide +kernel, rfl, by decide +kernel, by decide +kernel⟩
def B__law_seal : DTS := dSeq (dAsg (dCall W__law_check (dCons (dVar 0) (dNil))) (gN 1)) (dRet (dB pTupleOf (dCons (dOp2 pAdd (dOp2 pAdd (dCall W__law_number (dCons (dB pLen (dCons (dVar 0) (dNil))) (dNil))) (dB pListOf (dCons (dVar 0) (dNil)))) (dLst (dCons (dOp2 pDiv (dVar 1) (dC (.int 65536))) (dCons (dOp2 pSub (dOp2 pDiv (dVar 1) (dC (.int 256))) (dOp2 pMul (dOp2 pDiv (dVar 1) (dC (.int 65536))) (dC (.int 256)))) (dCons (dOp2 pSub (dVar 1) (dOp2 pMul (dOp2 pDiv (dVar 1) (dC (.int 256))) (dC (.int 256)))) (dNil)))))) (dNil))))
def W__law_seal : DSp := fnD 1 1 (B__law_seal)
set_option maxHeartbeats 4000000 in
theorem ok__law_seal {f : Addr} {fd : FuncData} (F : Fun K "_law_seal" "_law_seal" s__law_seal f fd) (T : Txt P K mg C) (G__law_check : DFn P wd K mg base "_law_check" 1 W__law_check) (G__law_number : DFn P wd K mg base "_law_number" 1 W__law_number) : FnOk P wd K mg base (L2.CX P wd) 2 f fd ["data"] (liftSp K (W__law_seal)) := by
  refine fnD_ok (k := 1) F sc__law_seal (fun cdv A outer s H E hr => ?_)
  exact (ds_cons (ds_set 1 sc__law_seal.nd (de_call G__law_check hr (takes_of rfl rfl rfl rfl) (da_cons (de_var 0) da_nil)))
      (ds_one (ds_ret (de_tupleOf T.n_tuple (da_cons (de_add (de_add (de_call G__law_number hr (takes_of rfl rfl rfl rfl) (da_cons (de_len T.n_len (da_cons (de_var 0) da_nil)) da_nil)) (de_listOf T.n_list (da_cons (de_var 0) da_nil))) (de_lst (da_cons (de_div (de_var 1) de_int) (da_cons (de_sub (de_div (de_var 1) de_int) (de_mul (de_div (de_var 1) de_int) de_int)) (da_cons (de_sub (de_var 1) (de_mul (de_div (de_var 1) de_int) de_int)) da_nil))))) da_nil)))))
abbrev s_folded : Stmt := topS 14
theorem sc_folded : FnScope ["number"] ["number"] (defScope s_folded) := ⟨rfl, rfl, rfl, by decide +kernel, rfl, by decide +kernel, by decide +kernel⟩
def B_folded : DTS := dRet (dIf (dTest (dOp2 pGe (dVar 0) (dC (.int 0)))) (dOp2 pMul (dC (.int 2)) (dVar 0)) (dOp2 pSub (dOp2 pMul (dC (.int (-2))) (dVar 0)) (dC (.int 1))))
def W_folded : DSp := fnD 1 0 (B_folded)
set_option maxHeartbeats 4000000 in
theorem ok_folded {f : Addr} {fd : FuncData} (F : Fun K "folded" "folded" s_folded f fd) (T : Txt P K mg C) : FnOk P wd K mg base (L2.CX P wd) 1 f fd ["number"] (liftSp K (W_folded)) := by
  refine fnD_ok (k := 0) F sc_folded (fun cdv A outer s H E hr => ?_)
  exact (ds_one (ds_ret (de_if (dt_cmp op_ge d2_ge (de_var 0) de_int) (de_mul de_int (de_var 0)) (de_sub (de_mul de_neg (de_var 0)) de_int))))
abbrev s_numbers_bytes : Stmt := topS 12
theorem sc_numbers_bytes : FnScope ["numbers", "found", "number"] ["numbers"] (defScope s_numbers_bytes) := ⟨rfl, rfl, rfl, by decide +kernel, rfl, by decide +kernel, by decide +kernel⟩
def b_numbers_bytes_1 : DTS := dDrop (dMl pExtend (dVar 1) (dCons (dCall W_number_bytes (dCons (dVar 2) (dNil))) (dNil)))
def B_numbers_bytes : DTS := dSeq (dAsg (dLstM (dNil)) (gN 1)) (dSeq (dFor (dIt (dVar 0)) (gN 2) b_numbers_bytes_1) (dRet (dFz (dVar 1))))
def W_numbers_bytes : DSp := fnD 1 2 (B_numbers_bytes)
set_option maxHeartbeats 4000000 in
theorem ok_numbers_bytes {f : Addr} {fd : FuncData} (F : Fun K "numbers_bytes" "numbers_bytes" s_numbers_bytes f fd) (T : Txt P K mg C) (G_number_bytes : DFn P wd K mg base "number_bytes" 1 W_number_bytes) : FnOk P wd K mg base (L2.CX P wd) 2 f fd ["numbers"] (liftSp K (W_numbers_bytes)) := by
  refine fnD_ok (k := 1) F sc_numbers_bytes (fun cdv A outer s H E hr => ?_)
  exact (ds_cons (ds_set 1 sc_numbers_bytes.nd (de_lstM da_nil))
      (ds_cons (ds_for (passes_of rfl) rfl (di_seq (de_var 0)) (dg_name 2 sc_numbers_bytes.nd) (ds_one (ds_expr (de_extend (de_var 1) (da_cons (de_call G_number_bytes hr (takes_of rfl rfl rfl rfl) (da_cons (de_var 2) da_nil)) da_nil)))))
      (ds_one (ds_ret (de_fz (de_var 1))))))
abbrev s_read_numbers : Stmt := topS 13
theorem sc_read_numbers : FnScope ["data", "place", "many", "found", "number"] ["data", "place", "many"] (defScope s_read_numbers) := ⟨rfl, rfl, rfl, by decide +kernel, rfl, by decide +kernel, by decide +kernel⟩
def c_read_numbers_1 (C : Str → Addr) : DTT := dTest (dOp2 pLt (dB pLen (dCons (dVar 3) (dNil))) (dVar 2))
def b_read_numbers_1 (C : Str → Addr) : DTS := dSeq (dAsg (dCall (W_read_number C) (dCons (dVar 0) (dCons (dVar 1) (dNil)))) (gT 2 (gsC (gN 4) (gsC (gN 1) (gs0))))) (dDrop (dMl pAppend (dVar 3) (dCons (dVar 4) (dNil))))
def B_read_numbers (C : Str → Addr) : DTS := dSeq (dAsg (dLstM (dNil)) (gN 3)) (dSeq (dWhile (c_read_numbers_1 C) (b_read_numbers_1 C)) (dRet (dTup (dCons (dFz (dVar 3)) (dCons (dVar 1) (dNil))))))
def W_read_numbers (C : Str → Addr) : DSp := fnD 3 2 (B_read_numbers C)
set_option maxHeartbeats 4000000 in
theorem ok_read_numbers {f : Addr} {fd : FuncData} (F : Fun K "read_numbers" "read_numbers" s_read_numbers f fd) (T : Txt P K mg C) (G_read_number : DFn P wd K mg base "read_number" 2 (W_read_number C)) : FnOk P wd K mg base (L2.CX P wd) 3 f fd ["data", "place", "many"] (liftSp K (W_read_numbers C)) := by
  refine fnD_ok (k := 2) F sc_read_numbers (fun cdv A outer s H E hr => ?_)
  exact (ds_cons (ds_set 3 sc_read_numbers.nd (de_lstM da_nil))
      (ds_cons (ds_while (passes_of rfl) (dt_cmp op_lt d2_lt (de_len T.n_len (da_cons (de_var 3) da_nil)) (de_var 2)) (ds_cons (ds_asg (de_call G_read_number hr (takes_of rfl rfl rfl rfl) (da_cons (de_var 0) (da_cons (de_var 1) da_nil))) (dg_tup rfl (dgs_cons (dg_name 4 sc_read_numbers.nd) (dgs_cons (dg_name 1 sc_read_numbers.nd) dgs_nil))))
      (ds_one (ds_expr (de_append (de_var 3) (da_cons (de_var 4) da_nil))))))
      (ds_one (ds_ret (de_tup (da_cons (de_fz (de_var 3)) (da_cons (de_var 1) da_nil)))))))
abbrev s_unfolded : Stmt := topS 15
theorem sc_unfolded : FnScope ["number"] ["number"] (defScope s_unfolded) := ⟨rfl, rfl, rfl, by decide +kernel, rfl, by decide +kernel, by decide +kernel⟩
def B_unfolded : DTS := dRet (dIf (dTest (dOp2 pEq (dOp2 pMod (dVar 0) (dC (.int 2))) (dC (.int 0)))) (dOp2 pDiv (dVar 0) (dC (.int 2))) (dOp2 pSub (dOp1 pNeg (dOp2 pDiv (dVar 0) (dC (.int 2)))) (dC (.int 1))))
def W_unfolded : DSp := fnD 1 0 (B_unfolded)
set_option maxHeartbeats 4000000 in
theorem ok_unfolded {f : Addr} {fd : FuncData} (F : Fun K "unfolded" "unfolded" s_unfolded f fd) (T : Txt P K mg C) : FnOk P wd K mg base (L2.CX P wd) 1 f fd ["number"] (liftSp K (W_unfolded)) := by
  refine fnD_ok (k := 0) F sc_unfolded (fun cdv A outer s H E hr => ?_)
  exact (ds_one (ds_ret (de_if (dt_cmp (op_eqD (u64 hr)) d2_eq (de_mod (de_var 0) de_int) de_int) (de_div (de_var 0) de_int) (de_sub (de_uneg (de_div (de_var 0) de_int)) de_int))))
abbrev s_law : Stmt := topS 31
theorem sc_law : FnScope ["script", "box", "turn", "numbers", "head", "plain", "number", "data", "k", "byte", "some", "at", "told", "bad", "due", "inside", "whole", "step", "other", "first"] ["script"] (defScope s_law) := ⟨rfl, rfl, rfl, by decide +kernel, rfl, by decide +kernel, by decide +kernel⟩
def x_law_1 (C : Str → Addr) : DTE := dOp2 pMul (dCall W_draw (dCons (dVar 1) (dCons (dOp2 pIx (dTup (dCons (dC (.int 200)) (dCons (dC (.int 300)) (dCons (dC (.int 70000)) (dCons (dC (.int 99999999)) (dNil)))))) (dCall W_draw (dCons (dVar 1) (dCons (dC (.int 4)) (dNil))))) (dNil)))) (dIf (dTest (dOp2 pEq (dCall W_draw (dCons (dVar 1) (dCons (dC (.int 12)) (dNil)))) (dC (.int 0)))) (dC (.int 36893488147419103232)) (dC (.int 1)))
def x_law_2 (C : Str → Addr) : DTE := dCall W_draw (dCons (dVar 1) (dCons (dC (.int 256)) (dNil)))
def b_law_1 (C : Str → Addr) : DTS := dAsg (dOp2 pAdd (dVar 5) (dCall W__law_number (dCons (dVar 6) (dNil)))) (gN 5)
def x_law_3 (C : Str → Addr) : DTE := dCall (W__law_same 12) (dCons (dCall W_number_bytes (dCons (dVar 6) (dNil))) (dCons (dCall W__law_number (dCons (dVar 6) (dNil))) (dNil)))
def r_law_1 (C : Str → Addr) : DTS := dSeq (dAsg (dCall W__law_place (dCons (dVar 10) (dCons (dVar 11) (dNil)))) (gN 14)) (dIfS (dOr (dNot (dTruth (dCall (W__law_same 12) (dCons (dVar 13) (dCons (dVar 14) (dNil)))))) (dAnd (dTest (dOp2 pIsN (dVar 14) (dC .none))) (dTest (dOp2 pNe (dB pTupleOf (dCons (dCall W__law_number (dCons (dOp2 pIx (dVar 12) (dC (.int 0))) (dNil))) (dNil))) (dSl (dVar 10) (dPart (dVar 11)) (dPart (dOp2 pIx (dVar 12) (dC (.int 1))))))))) (dRet (dC (.bool false))) (dNext))
def r_law_2 (C : Str → Addr) : DTS := dSeq (dAsg (dCall (W__law_read C) (dCons (dVar 10) (dCons (dVar 11) (dNil)))) (gT 2 (gsC (gN 12) (gsC (gN 13) (gs0))))) ((r_law_1 C))
def b_law_2 (C : Str → Addr) : DTS := dSeq (dAsg (dCall W_draw (dCons (dVar 1) (dCons (dOp2 pAdd (dB pLen (dCons (dVar 10) (dNil))) (dC (.int 1))) (dNil)))) (gN 11)) ((r_law_2 C))
def x_law_4 (C : Str → Addr) : DTE := dOp2 pIx (dTup (dCons (dCall W_draw (dCons (dVar 1) (dCons (dC (.int 256)) (dNil)))) (dCons (dC (.int 255)) (dCons (dCall W_draw (dCons (dVar 1) (dCons (dC (.int 2)) (dNil)))) (dNil))))) (dOp2 pSub (dVar 2) (dOp2 pMul (dOp2 pDiv (dVar 2) (dC (.int 3))) (dC (.int 3))))
def x_law_5 (C : Str → Addr) : DTE := dCall (W__law_refused C) (dCons (dSl (dVar 16) (dNoPart) (dPart (dVar 8))) (dNil))
def b_law_3 (C : Str → Addr) : DTS := dSeq (dPar 8 18 (dCons (dCall W_draw (dCons (dVar 1) (dCons (dB pLen (dCons (dVar 16) (dNil))) (dNil)))) (dCons (dCall W_draw (dCons (dVar 1) (dCons (dC (.int 255)) (dNil)))) dNil))) (dIfS (dNot (dTruth (dCall (W__law_refused C) (dCons (dOp2 pAdd (dOp2 pAdd (dSl (dVar 16) (dNoPart) (dPart (dVar 8))) (dTup (dCons (dIf (dTest (dOp2 pLt (dVar 18) (dOp2 pIx (dVar 16) (dVar 8)))) (dVar 18) (dOp2 pAdd (dVar 18) (dC (.int 1)))) (dNil)))) (dSl (dVar 16) (dPart (dOp2 pAdd (dVar 8) (dC (.int 1)))) (dNoPart))) (dNil))))) (dRet (dC (.bool false))) (dNext))
def b_law_4 (C : Str → Addr) : DTS := dIfS (dAnd (dTest (dOp2 pNe (dOp2 pIx (dVar 16) (dVar 8)) (dOp2 pIx (dVar 16) (dOp2 pAdd (dVar 8) (dC (.int 1)))))) (dNot (dTruth (dCall (W__law_refused C) (dCons (dOp2 pAdd (dOp2 pAdd (dSl (dVar 16) (dNoPart) (dPart (dVar 8))) (dTup (dCons (dOp2 pIx (dVar 16) (dOp2 pAdd (dVar 8) (dC (.int 1)))) (dCons (dOp2 pIx (dVar 16) (dVar 8)) (dNil))))) (dSl (dVar 16) (dPart (dOp2 pAdd (dVar 8) (dC (.int 2)))) (dNoPart))) (dNil)))))) (dRet (dC (.bool false))) (dNext)
def r_law_3 (C : Str → Addr) : DTS := dSeq (dAsg (dOp2 pSub (dOp2 pSub (dB pLen (dCons (dVar 16) (dNil))) (dB pLen (dCons (dVar 15) (dNil)))) (dC (.int 3))) (gN 19)) (dFor (dR2 (dCons (dVar 19) (dCons (dOp2 pSub (dOp2 pAdd (dVar 19) (dB pLen (dCons (dVar 15) (dNil)))) (dC (.int 1))) (dNil)))) (gN 8) (b_law_4 C))
def r_law_4 (C : Str → Addr) : DTS := dSeq (dFor (dR1 (dCons (dC (.int 12)) (dNil))) (gN 17) (b_law_3 C)) ((r_law_3 C))
def r_law_5 (C : Str → Addr) : DTS := dSeq (dIfS (dOr (dNot (dTruth (dB pAll (dCons (dLc (dR1 (dCons (dB pLen (dCons (dVar 16) (dNil))) (dNil))) (gN 8) (dYes) ((x_law_5 C)) [8]) (dNil))))) (dOr (dNot (dTruth (dCall (W__law_refused C) (dCons (dOp2 pAdd (dVar 16) (dTup (dCons (dVar 9) (dNil)))) (dNil))))) (dNot (dTruth (dCall (W__law_refused C) (dCons (dOp2 pAdd (dVar 16) (dVar 16)) (dNil))))))) (dRet (dC (.bool false))) (dNext)) ((r_law_4 C))
def r_law_6 (C : Str → Addr) : DTS := dSeq (dIfS (dNot (dTruth (dCall (W__law_same 12) (dCons (dTup (dCons (dCall W_check_of (dCons (dVar 15) (dNil))) (dCons (dCall W_sealed (dCons (dVar 15) (dNil))) (dCons (dCall (W__law_opened C) (dCons (dVar 16) (dNil))) (dNil))))) (dCons (dTup (dCons (dCall W__law_check (dCons (dVar 15) (dNil))) (dCons (dVar 16) (dCons (dTup (dCons (dVar 15) (dCons (dC .none) (dNil)))) (dNil))))) (dNil)))))) (dRet (dC (.bool false))) (dNext)) ((r_law_5 C))
def r_law_7 (C : Str → Addr) : DTS := dSeq (dAsg (dCall W__law_seal (dCons (dVar 15) (dNil))) (gN 16)) ((r_law_6 C))
def r_law_8 (C : Str → Addr) : DTS := dSeq (dAsg (dIf (dTest (dOp2 pEq (dVar 2) (dC (.int 0)))) (dOp2 pMul (dVar 15) (dOp2 pAdd (dC (.int 1)) (dOp2 pMul (dC (.int 14)) (dCall W_draw (dCons (dVar 1) (dCons (dC (.int 2)) (dNil))))))) (dVar 15)) (gN 15)) ((r_law_7 C))
def r_law_9 (C : Str → Addr) : DTS := dSeq (dAsg (dB pTupleOf (dCons (dLc (dR1 (dCons (dCall W_draw (dCons (dVar 1) (dCons (dC (.int 15)) (dNil)))) (dNil))) (gN 8) (dYes) ((x_law_4 C)) [8]) (dNil))) (gN 15)) ((r_law_8 C))
def r_law_10 (C : Str → Addr) : DTS := dSeq (dIfS (dNot (dTruth (dCall (W__law_same 12) (dCons (dTup (dCons (dCall W_folded (dCons (dVar 6) (dNil))) (dCons (dCall W_unfolded (dCons (dVar 14) (dNil))) (dNil)))) (dCons (dTup (dCons (dVar 14) (dCons (dVar 6) (dNil)))) (dNil)))))) (dRet (dC (.bool false))) (dNext)) ((r_law_9 C))
def r_law_11 (C : Str → Addr) : DTS := dSeq (dAsg (dIf (dTest (dOp2 pGe (dVar 6) (dC (.int 0)))) (dOp2 pMul (dC (.int 2)) (dVar 6)) (dOp2 pSub (dOp2 pMul (dC (.int (-2))) (dVar 6)) (dC (.int 1)))) (gN 14)) ((r_law_10 C))
def r_law_12 (C : Str → Addr) : DTS := dSeq (dAsg (dOp2 pSub (dCall W_draw (dCons (dVar 1) (dCons (dC (.int 2001)) (dNil)))) (dC (.int 1000))) (gN 6)) ((r_law_11 C))
def r_law_13 (C : Str → Addr) : DTS := dSeq (dFor (dIt (dTup (dCons (dVar 7) (dCons (dSl (dVar 7) (dNoPart) (dPart (dVar 8))) (dCons (dOp2 pAdd (dOp2 pAdd (dSl (dVar 7) (dNoPart) (dPart (dVar 8))) (dTup (dCons (dVar 9) (dNil)))) (dSl (dVar 7) (dPart (dOp2 pAdd (dVar 8) (dC (.int 1)))) (dNoPart))) (dCons (dOp2 pAdd (dTup (dCons (dVar 9) (dNil))) (dVar 7)) (dCons (dOp2 pAdd (dTup (dCons (dVar 9) (dCons (dC (.int 0)) (dNil)))) (dVar 7)) (dCons (dTup (dCons (dC (.int 192)) (dCons (dC (.int 191)) (dNil)))) (dCons (dTup (dCons (dC (.int 192)) (dCons (dC (.int 192)) (dNil)))) (dCons (dTup (dCons (dC (.int 193)) (dCons (dC (.int 0)) (dCons (dC (.int 5)) (dNil))))) (dCons (dTup (dCons (dC (.int 193)) (dCons (dC (.int 1)) (dCons (dC (.int 0)) (dNil))))) (dNil)))))))))))) (gN 10) (b_law_2 C)) ((r_law_12 C))
def r_law_14 (C : Str → Addr) : DTS := dSeq (dPar 8 9 (dCons (dCall W_draw (dCons (dVar 1) (dCons (dB pLen (dCons (dVar 7) (dNil))) (dNil)))) (dCons (dOp2 pIx (dTup (dCons (dCall W_draw (dCons (dVar 1) (dCons (dC (.int 256)) (dNil)))) (dCons (dC (.int 192)) (dCons (dC (.int 193)) (dCons (dC (.int 255)) (dNil)))))) (dCall W_draw (dCons (dVar 1) (dCons (dC (.int 4)) (dNil))))) dNil))) ((r_law_13 C))
def r_law_15 (C : Str → Addr) : DTS := dSeq (dIfS (dOr (dNot (dTruth (dB pAll (dCons (dLc (dIt (dVar 3)) (gN 6) (dYes) ((x_law_3 C)) [6]) (dNil))))) (dNot (dTruth (dCall (W__law_same 12) (dCons (dCall (W_byte_at C) (dCons (dVar 7) (dCons (dB pLen (dCons (dVar 4) (dNil))) (dNil)))) (dCons (dOp2 pIx (dVar 7) (dB pLen (dCons (dVar 4) (dNil)))) (dNil))))))) (dRet (dC (.bool false))) (dNext)) ((r_law_14 C))
def r_law_16 (C : Str → Addr) : DTS := dSeq (dIfS (dNot (dTruth (dCall (W__law_same 12) (dCons (dTup (dCons (dCall W_numbers_bytes (dCons (dVar 3) (dNil))) (dCons (dCall (W_read_numbers C) (dCons (dVar 7) (dCons (dB pLen (dCons (dVar 4) (dNil))) (dCons (dB pLen (dCons (dVar 3) (dNil))) (dNil))))) (dNil)))) (dCons (dTup (dCons (dVar 5) (dCons (dTup (dCons (dVar 3) (dCons (dOp2 pAdd (dB pLen (dCons (dVar 4) (dNil))) (dB pLen (dCons (dVar 5) (dNil)))) (dNil)))) (dNil)))) (dNil)))))) (dRet (dC (.bool false))) (dNext)) ((r_law_15 C))
def r_law_17 (C : Str → Addr) : DTS := dSeq (dAsg (dOp2 pAdd (dOp2 pAdd (dVar 4) (dB pTupleOf (dCons (dVar 5) (dNil)))) (dTup (dCons (dC (.int 7)) (dCons (dC (.int 200)) (dNil))))) (gN 7)) ((r_law_16 C))
def r_law_18 (C : Str → Addr) : DTS := dSeq (dFor (dIt (dVar 3)) (gN 6) (b_law_1 C)) ((r_law_17 C))
def r_law_19 (C : Str → Addr) : DTS := dSeq (dPar 4 5 (dCons (dB pTupleOf (dCons (dLc (dR1 (dCons (dCall W_draw (dCons (dVar 1) (dCons (dC (.int 3)) (dNil)))) (dNil))) (gN 8) (dYes) ((x_law_2 C)) [8]) (dNil))) (dCons (dLst (dNil)) dNil))) ((r_law_18 C))
def b_law_5 (C : Str → Addr) : DTS := dSeq (dAsg (dLc (dR1 (dCons (dCall W_draw (dCons (dVar 1) (dCons (dC (.int 5)) (dNil)))) (dNil))) (gN 8) (dYes) ((x_law_1 C)) [8]) (gN 3)) ((r_law_19 C))
def r_law_20 (C : Str → Addr) : DTS := dSeq (dFor (dR1 (dCons (dC (.int 4)) (dNil))) (gN 2) (b_law_5 C)) (dRet (dAndV (dOp2 pEq (dCall W_number_bytes (dCons (dC (.int 1000)) (dNil))) (dLst (dCons (dC (.int 193)) (dCons (dC (.int 3)) (dCons (dC (.int 232)) (dNil)))))) (dOp2 pEq (dCall W_sealed (dCons (dTup (dNil)) (dNil))) (dTup (dCons (dC (.int 0)) (dCons (dC (.int 0)) (dCons (dC (.int 0)) (dCons (dC (.int 1)) (dNil)))))))))
def r_law_21 (C : Str → Addr) : DTS := dSeq (dIfS (dTest (dOp2 pNe (dTup (dCons (dC c_ALONE) (dCons (dC c_ROUND) (dNil)))) (dTup (dCons (dC (.int 192)) (dCons (dC (.int 16777213)) (dNil)))))) (dRet (dC (.bool false))) (dNext)) ((r_law_20 C))
def B_law (C : Str → Addr) : DTS := dSeq (dAsg (dCall W_box (dCons (dVar 0) (dNil))) (gN 1)) ((r_law_21 C))
def W_law (C : Str → Addr) : DSp := fnD 1 19 (B_law C)
set_option maxHeartbeats 4000000 in
theorem ok_law {f : Addr} {fd : FuncData} (F : Fun K "law" "law" s_law f fd) (T : Txt P K mg C) (G__law_box : DFn P wd K mg base "_law_box" 1 W_box) (G__law_check : DFn P wd K mg base "_law_check" 1 W__law_check) (G__law_draw : DFn P wd K mg base "_law_draw" 2 W_draw) (G__law_number : DFn P wd K mg base "_law_number" 1 W__law_number) (G__law_opened : DFn P wd K mg base "_law_opened" 4 (W__law_opened C)) (G__law_place : DFn P wd K mg base "_law_place" 1 W__law_place) (G__law_read : DFn P wd K mg base "_law_read" 3 (W__law_read C)) (G__law_refused : DFn P wd K mg base "_law_refused" 5 (W__law_refused C)) (G__law_same : DFn P wd K mg base "_law_same" 12 (W__law_same 12)) (G__law_seal : DFn P wd K mg base "_law_seal" 2 W__law_seal) (G_byte_at : DFn P wd K mg base "byte_at" 1 (W_byte_at C)) (G_check_of : DFn P wd K mg base "check_of" 1 W_check_of) (G_folded : DFn P wd K mg base "folded" 1 W_folded) (G_number_bytes : DFn P wd K mg base "number_bytes" 1 W_number_bytes) (G_numbers_bytes : DFn P wd K mg base "numbers_bytes" 2 W_numbers_bytes) (G_read_numbers : DFn P wd K mg base "read_numbers" 3 (W_read_numbers C)) (G_sealed : DFn P wd K mg base "sealed" 2 W_sealed) (G_unfolded : DFn P wd K mg base "unfolded" 1 W_unfolded) : FnOk P wd K mg base (L2.CX P wd) 13 f fd ["script"] (liftSp K (W_law C)) := by
  refine fnD_ok (k := 12) F sc_law (fun cdv A outer s H E hr => ?_)
  exact (ds_cons (ds_set 1 sc_law.nd (de_call G__law_box hr (takes_of rfl rfl rfl rfl) (da_cons (de_var 0) da_nil)))
      (ds_cons (ds_if (dt_cmp (op_neD (u64 hr)) d2_ne (de_tup (da_cons (de_glob T.c_ALONE) (da_cons (de_glob T.c_ROUND) da_nil))) (de_tup (da_cons de_int (da_cons de_int da_nil)))) (ds_one (ds_ret de_bl)) ds_nil)
      (ds_cons (ds_for (passes_of rfl) rfl (di_range1 T.n_range (da_cons de_int da_nil)) (dg_name 2 sc_law.nd) (ds_cons (ds_setLc 3 (own := [("k", 8)]) rfl sc_law.nd (di_range1 T.n_range (da_cons (de_call G__law_draw hr (takes_of rfl rfl rfl rfl) (da_cons (de_var 1) (da_cons de_int da_nil))) da_nil)) (blkOk_by (by kernel_rfl)) (gc_name (by decide)) (fun _ _ _ _ _ => (pg_name (i := 8) sc_law.nd rfl (by first | exact Or.inl rfl | exact Or.inr rfl))) (fun _ _ _ _ _ => dts_nil) (fun _ _ _ _ _ => (de_mul (de_call G__law_draw hr takes0 (da_cons (de_var 1) (da_cons (de_ix (de_tup (da_cons de_int (da_cons de_int (da_cons de_int (da_cons de_int da_nil))))) (de_call G__law_draw hr takes0 (da_cons (de_var 1) (da_cons de_int da_nil)))) da_nil))) (de_if (dt_cmp (op_eqD (u64 hr)) d2_eq (de_call G__law_draw hr takes0 (da_cons (de_var 1) (da_cons de_int da_nil))) de_int) de_int de_int))) (sw_true rfl rfl rfl (by decide +kernel)))
      (ds_cons (ds_par 4 5 rfl sc_law.nd (da_cons (de_tupleOf T.n_tuple (da_cons (de_lc (own := [("k", 8)]) rfl sc_law.nd (di_range1 T.n_range (da_cons (de_call G__law_draw hr (takes_of rfl rfl rfl rfl) (da_cons (de_var 1) (da_cons de_int da_nil))) da_nil)) (blkOk_by (by kernel_rfl)) (gc_name (by decide)) (fun _ _ _ _ _ => (pg_name (i := 8) sc_law.nd rfl (by first | exact Or.inl rfl | exact Or.inr rfl))) (fun _ _ _ _ _ => dts_nil) (fun _ _ _ _ _ => (de_call G__law_draw hr takes0 (da_cons (de_var 1) (da_cons de_int da_nil))))) da_nil)) (da_cons (de_lst da_nil) da_nil)))
      (ds_cons (ds_for (passes_of rfl) rfl (di_seq (de_var 3)) (dg_name 6 sc_law.nd) (ds_one (ds_set 5 sc_law.nd (de_add (de_var 5) (de_call G__law_number hr (takes_of rfl rfl rfl rfl) (da_cons (de_var 6) da_nil))))))
      (ds_cons (ds_set 7 sc_law.nd (de_add (de_add (de_var 4) (de_tupleOf T.n_tuple (da_cons (de_var 5) da_nil))) (de_tup (da_cons de_int (da_cons de_int da_nil)))))
      (ds_cons (ds_if (dt_not (dt_truth (de_call G__law_same hr (takes_of rfl rfl rfl rfl) (da_cons (de_tup (da_cons (de_call G_numbers_bytes hr (takes_of rfl rfl rfl rfl) (da_cons (de_var 3) da_nil)) (da_cons (de_call G_read_numbers hr (takes_of rfl rfl rfl rfl) (da_cons (de_var 7) (da_cons (de_len T.n_len (da_cons (de_var 4) da_nil)) (da_cons (de_len T.n_len (da_cons (de_var 3) da_nil)) da_nil)))) da_nil))) (da_cons (de_tup (da_cons (de_var 5) (da_cons (de_tup (da_cons (de_var 3) (da_cons (de_add (de_len T.n_len (da_cons (de_var 4) da_nil)) (de_len T.n_len (da_cons (de_var 5) da_nil))) da_nil))) da_nil))) da_nil))))) (ds_one (ds_ret de_bl)) ds_nil)
      (ds_cons (ds_if (DW.dt (dw_or (dt_not (dt_truth (de_all rfl T.n_all (da_cons (de_lc (own := [("number", 6)]) rfl sc_law.nd (di_seq (de_var 3)) (blkOk_by (by kernel_rfl)) (gc_name (by decide)) (fun _ _ _ _ _ => (pg_name (i := 6) sc_law.nd rfl (by first | exact Or.inl rfl | exact Or.inr rfl))) (fun _ _ _ _ _ => dts_nil) (fun _ _ _ _ _ => (de_call G__law_same hr takes0 (da_cons (de_call G_number_bytes hr takes0 (da_cons (de_var 6) da_nil)) (da_cons (de_call G__law_number hr takes0 (da_cons (de_var 6) da_nil)) da_nil))))) da_nil)))) (dw_or1 (dt_not (dt_truth (de_call G__law_same hr (takes_of rfl rfl rfl rfl) (da_cons (de_call G_byte_at hr (takes_of rfl rfl rfl rfl) (da_cons (de_var 7) (da_cons (de_len T.n_len (da_cons (de_var 4) da_nil)) da_nil))) (da_cons (de_ix (de_var 7) (de_len T.n_len (da_cons (de_var 4) da_nil))) da_nil)))))))) (ds_one (ds_ret de_bl)) ds_nil)
      (ds_cons (ds_par 8 9 rfl sc_law.nd (da_cons (de_call G__law_draw hr (takes_of rfl rfl rfl rfl) (da_cons (de_var 1) (da_cons (de_len T.n_len (da_cons (de_var 7) da_nil)) da_nil))) (da_cons (de_ix (de_tup (da_cons (de_call G__law_draw hr (takes_of rfl rfl rfl rfl) (da_cons (de_var 1) (da_cons de_int da_nil))) (da_cons de_int (da_cons de_int (da_cons de_int da_nil))))) (de_call G__law_draw hr (takes_of rfl rfl rfl rfl) (da_cons (de_var 1) (da_cons de_int da_nil)))) da_nil)))
      (ds_cons (ds_for (passes_of rfl) rfl (di_seq (de_tup (da_cons (de_var 7) (da_cons (de_sl (de_var 7) do_none (do_some (de_var 8))) (da_cons (de_add (de_add (de_sl (de_var 7) do_none (do_some (de_var 8))) (de_tup (da_cons (de_var 9) da_nil))) (de_sl (de_var 7) (do_some (de_add (de_var 8) de_int)) do_none)) (da_cons (de_add (de_tup (da_cons (de_var 9) da_nil)) (de_var 7)) (da_cons (de_add (de_tup (da_cons (de_var 9) (da_cons de_int da_nil))) (de_var 7)) (da_cons (de_tup (da_cons de_int (da_cons de_int da_nil))) (da_cons (de_tup (da_cons de_int (da_cons de_int da_nil))) (da_cons (de_tup (da_cons de_int (da_cons de_int (da_cons de_int da_nil)))) (da_cons (de_tup (da_cons de_int (da_cons de_int (da_cons de_int da_nil)))) da_nil))))))))))) (dg_name 10 sc_law.nd) (ds_cons (ds_set 11 sc_law.nd (de_call G__law_draw hr (takes_of rfl rfl rfl rfl) (da_cons (de_var 1) (da_cons (de_add (de_len T.n_len (da_cons (de_var 10) da_nil)) de_int) da_nil))))
      (ds_cons (ds_asg (de_call G__law_read hr (takes_of rfl rfl rfl rfl) (da_cons (de_var 10) (da_cons (de_var 11) da_nil))) (dg_tup rfl (dgs_cons (dg_name 12 sc_law.nd) (dgs_cons (dg_name 13 sc_law.nd) dgs_nil))))
      (ds_cons (ds_set 14 sc_law.nd (de_call G__law_place hr (takes_of rfl rfl rfl rfl) (da_cons (de_var 10) (da_cons (de_var 11) da_nil))))
      (ds_one (ds_if (DW.dt (dw_or (dt_not (dt_truth (de_call G__law_same hr (takes_of rfl rfl rfl rfl) (da_cons (de_var 13) (da_cons (de_var 14) da_nil))))) (dw_or1 (DW.dt (dw_and (dt_cmp op_isN d2_isN (de_var 14) de_non) (dw_and1 (dt_cmp (op_neD (u64 hr)) d2_ne (de_tupleOf T.n_tuple (da_cons (de_call G__law_number hr (takes_of rfl rfl rfl rfl) (da_cons (de_ix (de_var 12) de_int) da_nil)) da_nil)) (de_sl (de_var 10) (do_some (de_var 11)) (do_some (de_ix (de_var 12) de_int)))))))))) (ds_one (ds_ret de_bl)) ds_nil))))))
      (ds_cons (ds_set 6 sc_law.nd (de_sub (de_call G__law_draw hr (takes_of rfl rfl rfl rfl) (da_cons (de_var 1) (da_cons de_int da_nil))) de_int))
      (ds_cons (ds_set 14 sc_law.nd (de_if (dt_cmp op_ge d2_ge (de_var 6) de_int) (de_mul de_int (de_var 6)) (de_sub (de_mul de_neg (de_var 6)) de_int)))
      (ds_cons (ds_if (dt_not (dt_truth (de_call G__law_same hr (takes_of rfl rfl rfl rfl) (da_cons (de_tup (da_cons (de_call G_folded hr (takes_of rfl rfl rfl rfl) (da_cons (de_var 6) da_nil)) (da_cons (de_call G_unfolded hr (takes_of rfl rfl rfl rfl) (da_cons (de_var 14) da_nil)) da_nil))) (da_cons (de_tup (da_cons (de_var 14) (da_cons (de_var 6) da_nil))) da_nil))))) (ds_one (ds_ret de_bl)) ds_nil)
      (ds_cons (ds_set 15 sc_law.nd (de_tupleOf T.n_tuple (da_cons (de_lc (own := [("k", 8)]) rfl sc_law.nd (di_range1 T.n_range (da_cons (de_call G__law_draw hr (takes_of rfl rfl rfl rfl) (da_cons (de_var 1) (da_cons de_int da_nil))) da_nil)) (blkOk_by (by kernel_rfl)) (gc_name (by decide)) (fun _ _ _ _ _ => (pg_name (i := 8) sc_law.nd rfl (by first | exact Or.inl rfl | exact Or.inr rfl))) (fun _ _ _ _ _ => dts_nil) (fun _ _ _ _ _ => (de_ix (de_tup (da_cons (de_call G__law_draw hr takes0 (da_cons (de_var 1) (da_cons de_int da_nil))) (da_cons de_int (da_cons (de_call G__law_draw hr takes0 (da_cons (de_var 1) (da_cons de_int da_nil))) da_nil)))) (de_sub (de_var 2) (de_mul (de_div (de_var 2) de_int) de_int))))) da_nil)))
      (ds_cons (ds_set 15 sc_law.nd (de_if (dt_cmp (op_eqD (u64 hr)) d2_eq (de_var 2) de_int) (de_mul (de_var 15) (de_add de_int (de_mul de_int (de_call G__law_draw hr (takes_of rfl rfl rfl rfl) (da_cons (de_var 1) (da_cons de_int da_nil)))))) (de_var 15)))
      (ds_cons (ds_set 16 sc_law.nd (de_call G__law_seal hr (takes_of rfl rfl rfl rfl) (da_cons (de_var 15) da_nil)))
      (ds_cons (ds_if (dt_not (dt_truth (de_call G__law_same hr (takes_of rfl rfl rfl rfl) (da_cons (de_tup (da_cons (de_call G_check_of hr (takes_of rfl rfl rfl rfl) (da_cons (de_var 15) da_nil)) (da_cons (de_call G_sealed hr (takes_of rfl rfl rfl rfl) (da_cons (de_var 15) da_nil)) (da_cons (de_call G__law_opened hr (takes_of rfl rfl rfl rfl) (da_cons (de_var 16) da_nil)) da_nil)))) (da_cons (de_tup (da_cons (de_call G__law_check hr (takes_of rfl rfl rfl rfl) (da_cons (de_var 15) da_nil)) (da_cons (de_var 16) (da_cons (de_tup (da_cons (de_var 15) (da_cons de_non da_nil))) da_nil)))) da_nil))))) (ds_one (ds_ret de_bl)) ds_nil)
      (ds_cons (ds_if (DW.dt (dw_or (dt_not (dt_truth (de_all rfl T.n_all (da_cons (de_lc (own := [("k", 8)]) rfl sc_law.nd (di_range1 T.n_range (da_cons (de_len T.n_len (da_cons (de_var 16) da_nil)) da_nil)) (blkOk_by (by kernel_rfl)) (gc_name (by decide)) (fun _ _ _ _ _ => (pg_name (i := 8) sc_law.nd rfl (by first | exact Or.inl rfl | exact Or.inr rfl))) (fun _ _ _ _ _ => dts_nil) (fun _ _ _ _ _ => (de_call G__law_refused hr takes0 (da_cons (de_sl (de_var 16) do_none (do_some (de_var 8))) da_nil)))) da_nil)))) (dw_or (dt_not (dt_truth (de_call G__law_refused hr (takes_of rfl rfl rfl rfl) (da_cons (de_add (de_var 16) (de_tup (da_cons (de_var 9) da_nil))) da_nil)))) (dw_or1 (dt_not (dt_truth (de_call G__law_refused hr (takes_of rfl rfl rfl rfl) (da_cons (de_add (de_var 16) (de_var 16)) da_nil)))))))) (ds_one (ds_ret de_bl)) ds_nil)
      (ds_cons (ds_for (passes_of rfl) rfl (di_range1 T.n_range (da_cons de_int da_nil)) (dg_name 17 sc_law.nd) (ds_cons (ds_par 8 18 rfl sc_law.nd (da_cons (de_call G__law_draw hr (takes_of rfl rfl rfl rfl) (da_cons (de_var 1) (da_cons (de_len T.n_len (da_cons (de_var 16) da_nil)) da_nil))) (da_cons (de_call G__law_draw hr (takes_of rfl rfl rfl rfl) (da_cons (de_var 1) (da_cons de_int da_nil))) da_nil)))
      (ds_one (ds_if (dt_not (dt_truth (de_call G__law_refused hr (takes_of rfl rfl rfl rfl) (da_cons (de_add (de_add (de_sl (de_var 16) do_none (do_some (de_var 8))) (de_tup (da_cons (de_if (dt_cmp op_lt d2_lt (de_var 18) (de_ix (de_var 16) (de_var 8))) (de_var 18) (de_add (de_var 18) de_int)) da_nil))) (de_sl (de_var 16) (do_some (de_add (de_var 8) de_int)) do_none)) da_nil)))) (ds_one (ds_ret de_bl)) ds_nil))))
      (ds_cons (ds_set 19 sc_law.nd (de_sub (de_sub (de_len T.n_len (da_cons (de_var 16) da_nil)) (de_len T.n_len (da_cons (de_var 15) da_nil))) de_int))
      (ds_one (ds_for (passes_of rfl) rfl (di_range2 T.n_range (da_cons (de_var 19) (da_cons (de_sub (de_add (de_var 19) (de_len T.n_len (da_cons (de_var 15) da_nil))) de_int) da_nil))) (dg_name 8 sc_law.nd) (ds_one (ds_if (DW.dt (dw_and (dt_cmp (op_neD (u64 hr)) d2_ne (de_ix (de_var 16) (de_var 8)) (de_ix (de_var 16) (de_add (de_var 8) de_int))) (dw_and1 (dt_not (dt_truth (de_call G__law_refused hr (takes_of rfl rfl rfl rfl) (da_cons (de_add (de_add (de_sl (de_var 16) do_none (do_some (de_var 8))) (de_tup (da_cons (de_ix (de_var 16) (de_add (de_var 8) de_int)) (da_cons (de_ix (de_var 16) (de_var 8)) da_nil)))) (de_sl (de_var 16) (do_some (de_add (de_var 8) de_int)) do_none)) da_nil))))))) (ds_one (ds_ret de_bl)) ds_nil)))))))))))))))))))))))
      (ds_one (ds_ret (de_and (de_cmp (op_eqD (u64 hr)) d2_eq (de_call G_number_bytes hr (takes_of rfl rfl rfl rfl) (da_cons de_int da_nil)) (de_lst (da_cons de_int (da_cons de_int (da_cons de_int da_nil))))) (de_one (de_cmp (op_eqD (u64 hr)) d2_eq (de_call G_sealed hr (takes_of rfl rfl rfl rfl) (da_cons (de_tup da_nil) da_nil)) (de_tup (da_cons de_int (da_cons de_int (da_cons de_int (da_cons de_int da_nil)))))))))))))
end
end DL

namespace DL
open PySem L2
theorem draw_box {i : Nat} {args : List DV} {M : Mem} {Q : DQ} {E : DX} (many : Int) (h0 : 0 < many) (h1 : many < 2 ^ 64) (ha : args = [.ref i, .val (.int many)]) (hM : mem M i = .res boxφ) (q : ∀ d, 0 ≤ d → d < many → Q (.val (.int d)) M) : W_draw args M Q E := by
  subst ha
  exact ⟨i, many, rfl, hM, h0, h1, q⟩
abbrev Bx : Mem := [.res boxφ]
theorem sh_pair {n : Nat} {a b : PyData} (ha : Sh n a) (hb : Sh n b) : Sh (n + 1) (.tuple [a, b]) := sh_tup fun d hd => by
  rcases List.mem_cons.mp hd with rfl | hd
  · exact ha
  · rw [List.mem_singleton.mp hd]; exact hb
theorem sh_triple {n : Nat} {a b c : PyData} (ha : Sh n a) (hb : Sh n b) (hc : Sh n c) : Sh (n + 1) (.tuple [a, b, c]) := sh_tup fun d hd => by
  rcases List.mem_cons.mp hd with rfl | hd
  · exact ha
  · rcases List.mem_cons.mp hd with rfl | hd
    · exact hb
    · rw [List.mem_singleton.mp hd]; exact hc
theorem sh_intT (ns : List Int) : Sh 1 (.tuple (intL ns)) := sh_tup (sh_intL ns)
theorem sh_intLs (ns : List Int) : Sh 1 (.list (intL ns)) := sh_lst (sh_intL ns)
theorem cutD_map {α β : Type} (f : α → β) (xs : List α) (lo hi : Option Int) : cutD (xs.map f) lo hi = (cutD xs lo hi).map f := by
  unfold cutD
  rw [List.length_map, List.map_take, List.map_drop]
theorem any_false {ds : List PyData} {k : List Bool → Prop} : (∀ d ∈ ds, d = .bool false) → k (ds.map fun _ => false) → boolsOf ds k := by
  induction ds generalizing k with
  | nil => exact fun _ q => q
  | cons d ds ih =>
    intro h q
    rw [h d List.mem_cons_self]
    exact ih (fun e he => h e (List.mem_cons_of_mem _ he)) q
theorem all_true : ∀ {ds : List PyData} {k : List Bool → Prop}, (∀ d ∈ ds, d = .bool true) → k (ds.map fun _ => true) → boolsOf ds k
  | [], _, _, q => q
  | d :: ds, k, h, q => by
    rw [h d List.mem_cons_self]
    exact all_true (ds := ds) (fun e he => h e (List.mem_cons_of_mem _ he)) q
theorem cutD_mid {α : Type} (xs : List α) {a b : Int} (ha : 0 ≤ a) (hb : 0 ≤ b) : cutD xs (some a) (some b) = (xs.drop a.toNat).take (b.toNat - a.toNat) := by
  unfold cutD HT.sIx
  simp only [Int.not_lt.mpr ha, Int.not_lt.mpr hb, if_false]
  by_cases h : a.toNat ≤ xs.length
  · rw [Nat.min_eq_left h]
    by_cases h2 : b.toNat ≤ xs.length
    · rw [Nat.min_eq_left h2]
    · rw [Nat.min_eq_right (by omega), List.take_of_length_le (by simp), List.take_of_length_le (by simp; omega)]
  · have e : min a.toNat xs.length = xs.length := by omega
    rw [e, List.drop_eq_nil_of_le (show xs.length ≤ a.toNat by omega)]; simp

end DL

namespace DL
open PySem L2
/-- big-endian digits to the base 256 -/
def digs (n : Nat) : List Int := if h : n = 0 then [] else digs (n / 256) ++ [((n % 256 : Nat) : Int)]
termination_by n
decreasing_by omega
theorem digs_0 : digs 0 = [] := by rw [digs]; simp
theorem digs_pos {n : Nat} (h : n ≠ 0) : digs n = digs (n / 256) ++ [((n % 256 : Nat) : Int)] := by rw [digs]; simp [h]
theorem digs_len : ∀ (f n : Nat), n < 256 ^ f → (digs n).length ≤ f
  | 0, n, h => by
    have : n = 0 := by simpa using h
    subst this
    simp [digs_0]
  | f + 1, n, h => by
    by_cases h0 : n = 0
    · subst h0; simp [digs_0]
    · rw [digs_pos h0, List.length_append, List.length_singleton]
      have := digs_len f (n / 256) (by rw [Nat.pow_succ] at h; omega)
      omega
def numB (n : Nat) : List Int := if n < 192 then [(n : Int)] else (191 + ((digs n).length : Int)) :: digs n
theorem loop_number_bytes {D : DEn} : ∀ (fuel n : Nat) (found : List Int), n < 256 ^ fuel → found.length + fuel ≤ 1000 → D.nx [.val (.int 0), .val (.list (intL (digs n ++ found)))] [] →
    whL c_number_bytes_1 b_number_bytes_1 D (fuel + 1) [.val (.int n), .val (.list (intL found))] []
  | 0, n, found, h, hf, k => by
    have : n = 0 := by simpa using h
    subst this
    unfold whL
    rw [digs_0] at k
    simp only [c_number_bytes_1, dSeq, dAsg, dRet, dRetN, dIfS, dDrop, dPar, dAug, dNext, dBreak, dCont, gN, gT, gs0_nil, gsC_cons, put, slot, dVar, dC, dOp2, dOp1, dTest, asB, dTruth, dNot, dAnd, dOr, dAndV, dOrV, dNotV, dIf, dChain, bOf, vw, vws, mem, mput, dTup, dLst, dLstM, dNil, dCons, vals, dSl, dPart, dNoPart, asI, pSl, pAdd, pSub, pMul, pNeg, pDiv, pMod, pLt, pLe, pGt, pGe, pInt, pIntC, pEq, pNe, pIx, pIsN, pIsNotN, pIsB, pIsNotB, pIn, pNotIn, isNone, dB, pLen, pTupleOf, pListOf, pItems, dBM, dMl, onL, pAppend, pExtend, pPopAt, dFz, asV, gSubL, dIs, isK, dRaise, dMkX, pTru, DV.is, DV.within, dIt, items, dR1, dR2, rangeD, dFor, dForT, dLc, dLcM, wipeD, dYes, dCall, refsOf, inn, back, wb, outn, List.map_cons, List.map_nil, List.length_cons, List.length_nil, List.cons_append, List.nil_append, List.append_nil, List.drop_nil, List.take_nil, List.drop_zero, true_and, and_true, if_true, ite_true, forall_const, Bool.not_true, Bool.not_false, Bool.false_eq_true, if_false, shp_int, shp_none, shp_bool, shp_nil, eqv_int, eqv_list_nil, atI_last, atI_0, atI_1, atI_2, atI_3, map_val_int, Int.reduceNeg, atI_map, pMax, pMin, pSum, pAll, pAny, pToInt, pAbs, exists_eq_left', exists_eq_left, Option.some.injEq, isEmpty_snoc, cutD_init, List.contains_nil, List.drop_succ_cons, List.take_succ_cons, sl, Nat.reduceAdd, Nat.reduceLeDiff, Nat.reduceLT, Int.reduceLT, Int.reduceLE, Int.reduceAdd, Int.reduceSub, Int.reduceMul, Int.reduceEq, eq_self, Nat.zero_add, decide_true, decide_false]
    exact k
  | f + 1, n, found, h, hf, k => by
    unfold whL
    by_cases h0 : n = 0
    · subst h0
      rw [digs_0] at k
      simp only [c_number_bytes_1, dSeq, dAsg, dRet, dRetN, dIfS, dDrop, dPar, dAug, dNext, dBreak, dCont, gN, gT, gs0_nil, gsC_cons, put, slot, dVar, dC, dOp2, dOp1, dTest, asB, dTruth, dNot, dAnd, dOr, dAndV, dOrV, dNotV, dIf, dChain, bOf, vw, vws, mem, mput, dTup, dLst, dLstM, dNil, dCons, vals, dSl, dPart, dNoPart, asI, pSl, pAdd, pSub, pMul, pNeg, pDiv, pMod, pLt, pLe, pGt, pGe, pInt, pIntC, pEq, pNe, pIx, pIsN, pIsNotN, pIsB, pIsNotB, pIn, pNotIn, isNone, dB, pLen, pTupleOf, pListOf, pItems, dBM, dMl, onL, pAppend, pExtend, pPopAt, dFz, asV, gSubL, dIs, isK, dRaise, dMkX, pTru, DV.is, DV.within, dIt, items, dR1, dR2, rangeD, dFor, dForT, dLc, dLcM, wipeD, dYes, dCall, refsOf, inn, back, wb, outn, List.map_cons, List.map_nil, List.length_cons, List.length_nil, List.cons_append, List.nil_append, List.append_nil, List.drop_nil, List.take_nil, List.drop_zero, true_and, and_true, if_true, ite_true, forall_const, Bool.not_true, Bool.not_false, Bool.false_eq_true, if_false, shp_int, shp_none, shp_bool, shp_nil, eqv_int, eqv_list_nil, atI_last, atI_0, atI_1, atI_2, atI_3, map_val_int, Int.reduceNeg, atI_map, pMax, pMin, pSum, pAll, pAny, pToInt, pAbs, exists_eq_left', exists_eq_left, Option.some.injEq, isEmpty_snoc, cutD_init, List.contains_nil, List.drop_succ_cons, List.take_succ_cons, sl, Nat.reduceAdd, Nat.reduceLeDiff, Nat.reduceLT, Int.reduceLT, Int.reduceLE, Int.reduceAdd, Int.reduceSub, Int.reduceMul, Int.reduceEq, eq_self, Nat.zero_add, decide_true, decide_false]
      exact k
    · have ih := loop_number_bytes (D := D) f (n / 256) (((n % 256 : Nat) : Int) :: found) (by rw [Nat.pow_succ] at h; omega) (by rw [List.length_cons]; omega) (by
        rw [digs_pos h0, List.append_assoc] at k
        exact k)
      generalize whL c_number_bytes_1 b_number_bytes_1 D (f + 1) = K at ih ⊢
      simp only [c_number_bytes_1, b_number_bytes_1, c_BYTE, dSeq, dAsg, dRet, dRetN, dIfS, dDrop, dPar, dAug, dNext, dBreak, dCont, gN, gT, gs0_nil, gsC_cons, put, slot, dVar, dC, dOp2, dOp1, dTest, asB, dTruth, dNot, dAnd, dOr, dAndV, dOrV, dNotV, dIf, dChain, bOf, vw, vws, mem, mput, dTup, dLst, dLstM, dNil, dCons, vals, dSl, dPart, dNoPart, asI, pSl, pAdd, pSub, pMul, pNeg, pDiv, pMod, pLt, pLe, pGt, pGe, pInt, pIntC, pEq, pNe, pIx, pIsN, pIsNotN, pIsB, pIsNotB, pIn, pNotIn, isNone, dB, pLen, pTupleOf, pListOf, pItems, dBM, dMl, onL, pAppend, pExtend, pPopAt, dFz, asV, gSubL, dIs, isK, dRaise, dMkX, pTru, DV.is, DV.within, dIt, items, dR1, dR2, rangeD, dFor, dForT, dLc, dLcM, wipeD, dYes, dCall, refsOf, inn, back, wb, outn, List.map_cons, List.map_nil, List.length_cons, List.length_nil, List.cons_append, List.nil_append, List.append_nil, List.drop_nil, List.take_nil, List.drop_zero, true_and, and_true, if_true, ite_true, forall_const, Bool.not_true, Bool.not_false, Bool.false_eq_true, if_false, shp_int, shp_none, shp_bool, shp_nil, eqv_int, eqv_list_nil, atI_last, atI_0, atI_1, atI_2, atI_3, map_val_int, Int.reduceNeg, atI_map, pMax, pMin, pSum, pAll, pAny, pToInt, pAbs, exists_eq_left', exists_eq_left, Option.some.injEq, isEmpty_snoc, cutD_init, List.contains_nil, List.drop_succ_cons, List.take_succ_cons, sl, Nat.reduceAdd, Nat.reduceLeDiff, Nat.reduceLT, Int.reduceLT, Int.reduceLE, Int.reduceAdd, Int.reduceSub, Int.reduceMul, Int.reduceEq, eq_self, Nat.zero_add, decide_true, decide_false]
      rw [if_pos (decide_eq_true (by omega))]
      refine ⟨by simp; omega, cdiv_of (by decide) (by decide), ?_⟩
      have e1 : (n : Int) % 256 = ((n % 256 : Nat) : Int) := by omega
      have e2 : (n : Int) / 256 = ((n / 256 : Nat) : Int) := by omega
      rw [e1, e2]
      exact ih
theorem spec_number_bytes (n : Nat) (h : n < 256 ^ 64) {Q : DQ} {E : DX} (q : Q (.val (.list (intL (numB n)))) []) : W_number_bytes [.val (.int n)] [] Q E := by
  refine ⟨rfl, ?_⟩
  simp only [B_number_bytes, c_ALONE, dSeq, dAsg, dRet, dRetN, dIfS, dDrop, dPar, dAug, dNext, dBreak, dCont, gN, gT, gs0_nil, gsC_cons, put, slot, dVar, dC, dOp2, dOp1, dTest, asB, dTruth, dNot, dAnd, dOr, dAndV, dOrV, dNotV, dIf, dChain, bOf, vw, vws, mem, mput, dTup, dLst, dLstM, dNil, dCons, vals, dSl, dPart, dNoPart, asI, pSl, pAdd, pSub, pMul, pNeg, pDiv, pMod, pLt, pLe, pGt, pGe, pInt, pIntC, pEq, pNe, pIx, pIsN, pIsNotN, pIsB, pIsNotB, pIn, pNotIn, isNone, dB, pLen, pTupleOf, pListOf, pItems, dBM, dMl, onL, pAppend, pExtend, pPopAt, dFz, asV, gSubL, dIs, isK, dRaise, dMkX, pTru, DV.is, DV.within, dIt, items, dR1, dR2, rangeD, dFor, dForT, dLc, dLcM, wipeD, dYes, dCall, refsOf, inn, back, wb, outn, List.map_cons, List.map_nil, List.length_cons, List.length_nil, List.cons_append, List.nil_append, List.append_nil, List.drop_nil, List.take_nil, List.drop_zero, true_and, and_true, if_true, ite_true, forall_const, Bool.not_true, Bool.not_false, Bool.false_eq_true, if_false, shp_int, shp_none, shp_bool, shp_nil, eqv_int, eqv_list_nil, atI_last, atI_0, atI_1, atI_2, atI_3, map_val_int, Int.reduceNeg, atI_map, pMax, pMin, pSum, pAll, pAny, pToInt, pAbs, exists_eq_left', exists_eq_left, Option.some.injEq, isEmpty_snoc, cutD_init, List.contains_nil, List.drop_succ_cons, List.take_succ_cons, sl, Nat.reduceAdd, Nat.reduceLeDiff, Nat.reduceLT, Int.reduceLT, Int.reduceLE, Int.reduceAdd, Int.reduceSub, Int.reduceMul, Int.reduceEq, eq_self, Nat.zero_add, decide_true, decide_false, List.replicate]
  unfold numB at q
  by_cases h1 : n < 192
  · rw [if_pos h1] at q
    rw [if_pos (decide_eq_true (by omega))]
    exact q
  · rw [if_neg h1] at q
    rw [if_neg (by simp; omega)]
    refine ⟨65, loop_number_bytes 64 n [] h (by simp) ?_⟩
    have hl := digs_len 64 n h
    simp only [c_ALONE, dSeq, dAsg, dRet, dRetN, dIfS, dDrop, dPar, dAug, dNext, dBreak, dCont, gN, gT, gs0_nil, gsC_cons, put, slot, dVar, dC, dOp2, dOp1, dTest, asB, dTruth, dNot, dAnd, dOr, dAndV, dOrV, dNotV, dIf, dChain, bOf, vw, vws, mem, mput, dTup, dLst, dLstM, dNil, dCons, vals, dSl, dPart, dNoPart, asI, pSl, pAdd, pSub, pMul, pNeg, pDiv, pMod, pLt, pLe, pGt, pGe, pInt, pIntC, pEq, pNe, pIx, pIsN, pIsNotN, pIsB, pIsNotB, pIn, pNotIn, isNone, dB, pLen, pTupleOf, pListOf, pItems, dBM, dMl, onL, pAppend, pExtend, pPopAt, dFz, asV, gSubL, dIs, isK, dRaise, dMkX, pTru, DV.is, DV.within, dIt, items, dR1, dR2, rangeD, dFor, dForT, dLc, dLcM, wipeD, dYes, dCall, refsOf, inn, back, wb, outn, List.map_cons, List.map_nil, List.length_cons, List.length_nil, List.cons_append, List.nil_append, List.append_nil, List.drop_nil, List.take_nil, List.drop_zero, true_and, and_true, if_true, ite_true, forall_const, Bool.not_true, Bool.not_false, Bool.false_eq_true, if_false, shp_int, shp_none, shp_bool, shp_nil, eqv_int, eqv_list_nil, atI_last, atI_0, atI_1, atI_2, atI_3, map_val_int, Int.reduceNeg, atI_map, pMax, pMin, pSum, pAll, pAny, pToInt, pAbs, exists_eq_left', exists_eq_left, Option.some.injEq, isEmpty_snoc, cutD_init, List.contains_nil, List.drop_succ_cons, List.take_succ_cons, sl, Nat.reduceAdd, Nat.reduceLeDiff, Nat.reduceLT, Int.reduceLT, Int.reduceLE, Int.reduceAdd, Int.reduceSub, Int.reduceMul, Int.reduceEq, eq_self, Nat.zero_add, decide_true, decide_false, List.length_map]
    intro _
    exact ⟨by omega, q⟩

end DL

namespace DL
open PySem L2
theorem loop__law_number {D : DEn} : ∀ (fuel n : Nat) (found : List Int), n < 256 ^ fuel → found.length + fuel ≤ 1000 → D.nx [.val (.int 0), .val (.list (intL (digs n ++ found)))] [] →
    whL c__law_number_1 b__law_number_1 D (fuel + 1) [.val (.int n), .val (.list (intL found))] []
  | 0, n, found, h, hf, k => by
    have : n = 0 := by simpa using h
    subst this
    unfold whL
    rw [digs_0] at k
    simp only [c__law_number_1, dSeq, dAsg, dRet, dRetN, dIfS, dDrop, dPar, dAug, dNext, dBreak, dCont, gN, gT, gs0_nil, gsC_cons, put, slot, dVar, dC, dOp2, dOp1, dTest, asB, dTruth, dNot, dAnd, dOr, dAndV, dOrV, dNotV, dIf, dChain, bOf, vw, vws, mem, mput, dTup, dLst, dLstM, dNil, dCons, vals, dSl, dPart, dNoPart, asI, pSl, pAdd, pSub, pMul, pNeg, pDiv, pMod, pLt, pLe, pGt, pGe, pInt, pIntC, pEq, pNe, pIx, pIsN, pIsNotN, pIsB, pIsNotB, pIn, pNotIn, isNone, dB, pLen, pTupleOf, pListOf, pItems, dBM, dMl, onL, pAppend, pExtend, pPopAt, dFz, asV, gSubL, dIs, isK, dRaise, dMkX, pTru, DV.is, DV.within, dIt, items, dR1, dR2, rangeD, dFor, dForT, dLc, dLcM, wipeD, dYes, dCall, refsOf, inn, back, wb, outn, List.map_cons, List.map_nil, List.length_cons, List.length_nil, List.cons_append, List.nil_append, List.append_nil, List.drop_nil, List.take_nil, List.drop_zero, true_and, and_true, if_true, ite_true, forall_const, Bool.not_true, Bool.not_false, Bool.false_eq_true, if_false, shp_int, shp_none, shp_bool, shp_nil, eqv_int, eqv_list_nil, atI_last, atI_0, atI_1, atI_2, atI_3, map_val_int, Int.reduceNeg, atI_map, pMax, pMin, pSum, pAll, pAny, pToInt, pAbs, exists_eq_left', exists_eq_left, Option.some.injEq, isEmpty_snoc, cutD_init, List.contains_nil, List.drop_succ_cons, List.take_succ_cons, sl, Nat.reduceAdd, Nat.reduceLeDiff, Nat.reduceLT, Int.reduceLT, Int.reduceLE, Int.reduceAdd, Int.reduceSub, Int.reduceMul, Int.reduceEq, eq_self, Nat.zero_add, decide_true, decide_false]
    exact k
  | f + 1, n, found, h, hf, k => by
    unfold whL
    by_cases h0 : n = 0
    · subst h0
      rw [digs_0] at k
      simp only [c__law_number_1, dSeq, dAsg, dRet, dRetN, dIfS, dDrop, dPar, dAug, dNext, dBreak, dCont, gN, gT, gs0_nil, gsC_cons, put, slot, dVar, dC, dOp2, dOp1, dTest, asB, dTruth, dNot, dAnd, dOr, dAndV, dOrV, dNotV, dIf, dChain, bOf, vw, vws, mem, mput, dTup, dLst, dLstM, dNil, dCons, vals, dSl, dPart, dNoPart, asI, pSl, pAdd, pSub, pMul, pNeg, pDiv, pMod, pLt, pLe, pGt, pGe, pInt, pIntC, pEq, pNe, pIx, pIsN, pIsNotN, pIsB, pIsNotB, pIn, pNotIn, isNone, dB, pLen, pTupleOf, pListOf, pItems, dBM, dMl, onL, pAppend, pExtend, pPopAt, dFz, asV, gSubL, dIs, isK, dRaise, dMkX, pTru, DV.is, DV.within, dIt, items, dR1, dR2, rangeD, dFor, dForT, dLc, dLcM, wipeD, dYes, dCall, refsOf, inn, back, wb, outn, List.map_cons, List.map_nil, List.length_cons, List.length_nil, List.cons_append, List.nil_append, List.append_nil, List.drop_nil, List.take_nil, List.drop_zero, true_and, and_true, if_true, ite_true, forall_const, Bool.not_true, Bool.not_false, Bool.false_eq_true, if_false, shp_int, shp_none, shp_bool, shp_nil, eqv_int, eqv_list_nil, atI_last, atI_0, atI_1, atI_2, atI_3, map_val_int, Int.reduceNeg, atI_map, pMax, pMin, pSum, pAll, pAny, pToInt, pAbs, exists_eq_left', exists_eq_left, Option.some.injEq, isEmpty_snoc, cutD_init, List.contains_nil, List.drop_succ_cons, List.take_succ_cons, sl, Nat.reduceAdd, Nat.reduceLeDiff, Nat.reduceLT, Int.reduceLT, Int.reduceLE, Int.reduceAdd, Int.reduceSub, Int.reduceMul, Int.reduceEq, eq_self, Nat.zero_add, decide_true, decide_false]
      exact k
    · have ih := loop__law_number (D := D) f (n / 256) (((n % 256 : Nat) : Int) :: found) (by rw [Nat.pow_succ] at h; omega) (by rw [List.length_cons]; omega) (by
        rw [digs_pos h0, List.append_assoc] at k
        exact k)
      generalize whL c__law_number_1 b__law_number_1 D (f + 1) = K at ih ⊢
      simp only [c__law_number_1, b__law_number_1, dSeq, dAsg, dRet, dRetN, dIfS, dDrop, dPar, dAug, dNext, dBreak, dCont, gN, gT, gs0_nil, gsC_cons, put, slot, dVar, dC, dOp2, dOp1, dTest, asB, dTruth, dNot, dAnd, dOr, dAndV, dOrV, dNotV, dIf, dChain, bOf, vw, vws, mem, mput, dTup, dLst, dLstM, dNil, dCons, vals, dSl, dPart, dNoPart, asI, pSl, pAdd, pSub, pMul, pNeg, pDiv, pMod, pLt, pLe, pGt, pGe, pInt, pIntC, pEq, pNe, pIx, pIsN, pIsNotN, pIsB, pIsNotB, pIn, pNotIn, isNone, dB, pLen, pTupleOf, pListOf, pItems, dBM, dMl, onL, pAppend, pExtend, pPopAt, dFz, asV, gSubL, dIs, isK, dRaise, dMkX, pTru, DV.is, DV.within, dIt, items, dR1, dR2, rangeD, dFor, dForT, dLc, dLcM, wipeD, dYes, dCall, refsOf, inn, back, wb, outn, List.map_cons, List.map_nil, List.length_cons, List.length_nil, List.cons_append, List.nil_append, List.append_nil, List.drop_nil, List.take_nil, List.drop_zero, true_and, and_true, if_true, ite_true, forall_const, Bool.not_true, Bool.not_false, Bool.false_eq_true, if_false, shp_int, shp_none, shp_bool, shp_nil, eqv_int, eqv_list_nil, atI_last, atI_0, atI_1, atI_2, atI_3, map_val_int, Int.reduceNeg, atI_map, pMax, pMin, pSum, pAll, pAny, pToInt, pAbs, exists_eq_left', exists_eq_left, Option.some.injEq, isEmpty_snoc, cutD_init, List.contains_nil, List.drop_succ_cons, List.take_succ_cons, sl, Nat.reduceAdd, Nat.reduceLeDiff, Nat.reduceLT, Int.reduceLT, Int.reduceLE, Int.reduceAdd, Int.reduceSub, Int.reduceMul, Int.reduceEq, eq_self, Nat.zero_add, decide_true, decide_false]
      rw [if_pos (decide_eq_true (by omega))]
      refine ⟨cdiv_of (by decide) (by decide), cmul_r (by decide) (by decide), by simp; omega, cdiv_of (by decide) (by decide), ?_⟩
      have e1 : (n : Int) - (n : Int) / 256 * 256 = ((n % 256 : Nat) : Int) := by omega
      have e2 : (n : Int) / 256 = ((n / 256 : Nat) : Int) := by omega
      rw [e1, e2]
      exact ih
theorem spec__law_number (n : Nat) (h : n < 256 ^ 64) {Q : DQ} {E : DX} (q : Q (.val (.list (intL (numB n)))) []) : W__law_number [.val (.int n)] [] Q E := by
  refine ⟨rfl, ?_⟩
  simp only [B__law_number, dSeq, dAsg, dRet, dRetN, dIfS, dDrop, dPar, dAug, dNext, dBreak, dCont, gN, gT, gs0_nil, gsC_cons, put, slot, dVar, dC, dOp2, dOp1, dTest, asB, dTruth, dNot, dAnd, dOr, dAndV, dOrV, dNotV, dIf, dChain, bOf, vw, vws, mem, mput, dTup, dLst, dLstM, dNil, dCons, vals, dSl, dPart, dNoPart, asI, pSl, pAdd, pSub, pMul, pNeg, pDiv, pMod, pLt, pLe, pGt, pGe, pInt, pIntC, pEq, pNe, pIx, pIsN, pIsNotN, pIsB, pIsNotB, pIn, pNotIn, isNone, dB, pLen, pTupleOf, pListOf, pItems, dBM, dMl, onL, pAppend, pExtend, pPopAt, dFz, asV, gSubL, dIs, isK, dRaise, dMkX, pTru, DV.is, DV.within, dIt, items, dR1, dR2, rangeD, dFor, dForT, dLc, dLcM, wipeD, dYes, dCall, refsOf, inn, back, wb, outn, List.map_cons, List.map_nil, List.length_cons, List.length_nil, List.cons_append, List.nil_append, List.append_nil, List.drop_nil, List.take_nil, List.drop_zero, true_and, and_true, if_true, ite_true, forall_const, Bool.not_true, Bool.not_false, Bool.false_eq_true, if_false, shp_int, shp_none, shp_bool, shp_nil, eqv_int, eqv_list_nil, atI_last, atI_0, atI_1, atI_2, atI_3, map_val_int, Int.reduceNeg, atI_map, pMax, pMin, pSum, pAll, pAny, pToInt, pAbs, exists_eq_left', exists_eq_left, Option.some.injEq, isEmpty_snoc, cutD_init, List.contains_nil, List.drop_succ_cons, List.take_succ_cons, sl, Nat.reduceAdd, Nat.reduceLeDiff, Nat.reduceLT, Int.reduceLT, Int.reduceLE, Int.reduceAdd, Int.reduceSub, Int.reduceMul, Int.reduceEq, eq_self, Nat.zero_add, decide_true, decide_false, List.replicate]
  unfold numB at q
  by_cases h1 : n < 192
  · rw [if_pos h1] at q
    rw [if_pos (decide_eq_true (by omega))]
    exact q
  · rw [if_neg h1] at q
    rw [if_neg (by simp; omega)]
    refine ⟨65, loop__law_number 64 n [] h (by simp) ?_⟩
    have hl := digs_len 64 n h
    simp only [dSeq, dAsg, dRet, dRetN, dIfS, dDrop, dPar, dAug, dNext, dBreak, dCont, gN, gT, gs0_nil, gsC_cons, put, slot, dVar, dC, dOp2, dOp1, dTest, asB, dTruth, dNot, dAnd, dOr, dAndV, dOrV, dNotV, dIf, dChain, bOf, vw, vws, mem, mput, dTup, dLst, dLstM, dNil, dCons, vals, dSl, dPart, dNoPart, asI, pSl, pAdd, pSub, pMul, pNeg, pDiv, pMod, pLt, pLe, pGt, pGe, pInt, pIntC, pEq, pNe, pIx, pIsN, pIsNotN, pIsB, pIsNotB, pIn, pNotIn, isNone, dB, pLen, pTupleOf, pListOf, pItems, dBM, dMl, onL, pAppend, pExtend, pPopAt, dFz, asV, gSubL, dIs, isK, dRaise, dMkX, pTru, DV.is, DV.within, dIt, items, dR1, dR2, rangeD, dFor, dForT, dLc, dLcM, wipeD, dYes, dCall, refsOf, inn, back, wb, outn, List.map_cons, List.map_nil, List.length_cons, List.length_nil, List.cons_append, List.nil_append, List.append_nil, List.drop_nil, List.take_nil, List.drop_zero, true_and, and_true, if_true, ite_true, forall_const, Bool.not_true, Bool.not_false, Bool.false_eq_true, if_false, shp_int, shp_none, shp_bool, shp_nil, eqv_int, eqv_list_nil, atI_last, atI_0, atI_1, atI_2, atI_3, map_val_int, Int.reduceNeg, atI_map, pMax, pMin, pSum, pAll, pAny, pToInt, pAbs, exists_eq_left', exists_eq_left, Option.some.injEq, isEmpty_snoc, cutD_init, List.contains_nil, List.drop_succ_cons, List.take_succ_cons, sl, Nat.reduceAdd, Nat.reduceLeDiff, Nat.reduceLT, Int.reduceLT, Int.reduceLE, Int.reduceAdd, Int.reduceSub, Int.reduceMul, Int.reduceEq, eq_self, Nat.zero_add, decide_true, decide_false, List.length_map]
    intro _
    exact ⟨by omega, q⟩

end DL

namespace DL
open PySem L2
theorem spec_byte_at {C : Str → Addr} (ns : List Int) (p : Int) (h0 : 0 ≤ p) {Q : DQ} {E : DX} (q : ∀ v, ns[p.toNat]? = some v → Q (.val (.int v)) []) (e : ns.length ≤ p → E (.own (C "BadBytes") [("place", .int ns.length)]) []) :
    W_byte_at C [.val (.tuple (intL ns)), .val (.int p)] [] Q E := by
  refine ⟨rfl, ?_⟩
  simp only [B_byte_at, dSeq, dAsg, dRet, dRetN, dIfS, dDrop, dPar, dAug, dNext, dBreak, dCont, gN, gT, gs0_nil, gsC_cons, put, slot, dVar, dC, dOp2, dOp1, dTest, asB, dTruth, dNot, dAnd, dOr, dAndV, dOrV, dNotV, dIf, dChain, bOf, vw, vws, mem, mput, dTup, dLst, dLstM, dNil, dCons, vals, dSl, dPart, dNoPart, asI, pSl, pAdd, pSub, pMul, pNeg, pDiv, pMod, pLt, pLe, pGt, pGe, pInt, pIntC, pEq, pNe, pIx, pIsN, pIsNotN, pIsB, pIsNotB, pIn, pNotIn, isNone, dB, pLen, pTupleOf, pListOf, pItems, dBM, dMl, onL, pAppend, pExtend, pPopAt, dFz, asV, gSubL, dIs, isK, dRaise, dMkX, pTru, DV.is, DV.within, dIt, items, dR1, dR2, rangeD, dFor, dForT, dLc, dLcM, wipeD, dYes, dCall, refsOf, inn, back, wb, outn, List.map_cons, List.map_nil, List.length_cons, List.length_nil, List.cons_append, List.nil_append, List.append_nil, List.drop_nil, List.take_nil, List.drop_zero, true_and, and_true, if_true, ite_true, forall_const, Bool.not_true, Bool.not_false, Bool.false_eq_true, if_false, shp_int, shp_none, shp_bool, shp_nil, eqv_int, eqv_list_nil, atI_last, atI_0, atI_1, atI_2, atI_3, map_val_int, Int.reduceNeg, atI_map, pMax, pMin, pSum, pAll, pAny, pToInt, pAbs, exists_eq_left', exists_eq_left, Option.some.injEq, isEmpty_snoc, cutD_init, List.contains_nil, List.drop_succ_cons, List.take_succ_cons, sl, Nat.reduceAdd, Nat.reduceLeDiff, Nat.reduceLT, Int.reduceLT, Int.reduceLE, Int.reduceAdd, Int.reduceSub, Int.reduceMul, Int.reduceEq, eq_self, Nat.zero_add, decide_true, decide_false, List.replicate, List.length_map]
  intro hz
  by_cases h : (ns.length : Int) ≤ p
  · simp only [h, dSeq, dAsg, dRet, dRetN, dIfS, dDrop, dPar, dAug, dNext, dBreak, dCont, gN, gT, gs0_nil, gsC_cons, put, slot, dVar, dC, dOp2, dOp1, dTest, asB, dTruth, dNot, dAnd, dOr, dAndV, dOrV, dNotV, dIf, dChain, bOf, vw, vws, mem, mput, dTup, dLst, dLstM, dNil, dCons, vals, dSl, dPart, dNoPart, asI, pSl, pAdd, pSub, pMul, pNeg, pDiv, pMod, pLt, pLe, pGt, pGe, pInt, pIntC, pEq, pNe, pIx, pIsN, pIsNotN, pIsB, pIsNotB, pIn, pNotIn, isNone, dB, pLen, pTupleOf, pListOf, pItems, dBM, dMl, onL, pAppend, pExtend, pPopAt, dFz, asV, gSubL, dIs, isK, dRaise, dMkX, pTru, DV.is, DV.within, dIt, items, dR1, dR2, rangeD, dFor, dForT, dLc, dLcM, wipeD, dYes, dCall, refsOf, inn, back, wb, outn, List.map_cons, List.map_nil, List.length_cons, List.length_nil, List.cons_append, List.nil_append, List.append_nil, List.drop_nil, List.take_nil, List.drop_zero, true_and, and_true, if_true, ite_true, forall_const, Bool.not_true, Bool.not_false, Bool.false_eq_true, if_false, shp_int, shp_none, shp_bool, shp_nil, eqv_int, eqv_list_nil, atI_last, atI_0, atI_1, atI_2, atI_3, map_val_int, Int.reduceNeg, atI_map, pMax, pMin, pSum, pAll, pAny, pToInt, pAbs, exists_eq_left', exists_eq_left, Option.some.injEq, isEmpty_snoc, cutD_init, List.contains_nil, List.drop_succ_cons, List.take_succ_cons, sl, Nat.reduceAdd, Nat.reduceLeDiff, Nat.reduceLT, Int.reduceLT, Int.reduceLE, Int.reduceAdd, Int.reduceSub, Int.reduceMul, Int.reduceEq, eq_self, Nat.zero_add, decide_true, decide_false]
    exact fun _ => ⟨log2_small (by omega) (by omega), e h⟩
  · simp only [h, dSeq, dAsg, dRet, dRetN, dIfS, dDrop, dPar, dAug, dNext, dBreak, dCont, gN, gT, gs0_nil, gsC_cons, put, slot, dVar, dC, dOp2, dOp1, dTest, asB, dTruth, dNot, dAnd, dOr, dAndV, dOrV, dNotV, dIf, dChain, bOf, vw, vws, mem, mput, dTup, dLst, dLstM, dNil, dCons, vals, dSl, dPart, dNoPart, asI, pSl, pAdd, pSub, pMul, pNeg, pDiv, pMod, pLt, pLe, pGt, pGe, pInt, pIntC, pEq, pNe, pIx, pIsN, pIsNotN, pIsB, pIsNotB, pIn, pNotIn, isNone, dB, pLen, pTupleOf, pListOf, pItems, dBM, dMl, onL, pAppend, pExtend, pPopAt, dFz, asV, gSubL, dIs, isK, dRaise, dMkX, pTru, DV.is, DV.within, dIt, items, dR1, dR2, rangeD, dFor, dForT, dLc, dLcM, wipeD, dYes, dCall, refsOf, inn, back, wb, outn, List.map_cons, List.map_nil, List.length_cons, List.length_nil, List.cons_append, List.nil_append, List.append_nil, List.drop_nil, List.take_nil, List.drop_zero, true_and, and_true, if_true, ite_true, forall_const, Bool.not_true, Bool.not_false, Bool.false_eq_true, if_false, shp_int, shp_none, shp_bool, shp_nil, eqv_int, eqv_list_nil, atI_last, atI_0, atI_1, atI_2, atI_3, map_val_int, Int.reduceNeg, atI_map, pMax, pMin, pSum, pAll, pAny, pToInt, pAbs, exists_eq_left', exists_eq_left, Option.some.injEq, isEmpty_snoc, cutD_init, List.contains_nil, List.drop_succ_cons, List.take_succ_cons, sl, Nat.reduceAdd, Nat.reduceLeDiff, Nat.reduceLT, Int.reduceLT, Int.reduceLE, Int.reduceAdd, Int.reduceSub, Int.reduceMul, Int.reduceEq, eq_self, Nat.zero_add, decide_true, decide_false]
    have hp : p.toNat < ns.length := by omega
    refine ⟨.int ns[p.toNat], by rw [atI_of _ h0 (by omega), List.getElem?_eq_getElem hp]; rfl, q _ (List.getElem?_eq_getElem hp)⟩

end DL

namespace DL
open PySem L2
def readD (data : List Int) (many : Nat) : Nat → Nat → Int → Int ⊕ Nat
  | 0, _, acc => .inl acc
  | n + 1, k, acc => match data[k]? with
    | none => .inr data.length
    | some b => if n + 1 = many ∧ b < (if many = 1 then 192 else 1) then .inr k else readD data many n (k + 1) (acc * 256 + b)
/-- what read_number tells: the number and the place behind it, or the bad place -/
def readN (data : List Int) (place : Nat) : (Int × Nat) ⊕ Nat := match data[place]? with
  | none => .inr data.length
  | some b => if b < 192 then .inl (b, place + 1) else match readD data (b - 191).toNat (b - 191).toNat (place + 1) 0 with
    | .inl v => .inl (v, place + 1 + (b - 191).toNat)
    | .inr k => .inr k
theorem loop_read_number {C : Str → Addr} {D : DEn} {C' : Mem → Prop} (hC : ∀ M, C' M) (data : List Int) (hdl : data.length ≤ 1000000) (place many : Nat) (hm1 : many ≤ 1000) (hpl : place ≤ 1000000) : ∀ (n k : Nat) (acc : Int) (x2 x5 x6 : DV), k + n = place + 1 + many → n ≤ many →
    (∀ v x5 x6, readD data many n k acc = .inl v → D.nx [.val (.tuple (intL data)), .val (.int place), x2, .val (.int many), .val (.int v), x5, x6] []) →
    (∀ b ρ', readD data many n k acc = .inr b → D.ex (.own (C "BadBytes") [("place", .int b)]) ρ' []) →
    forL (gN 5) (b_read_number_1 C) D C' ((List.range' k n).map fun i => .val (.int (i : Nat))) [.val (.tuple (intL data)), .val (.int place), x2, .val (.int many), .val (.int acc), x5, x6] []
  | 0, k, acc, x2, x5, x6, _, _, q, _ => ⟨hC _, q acc x5 x6 rfl⟩
  | n + 1, k, acc, x2, x5, x6, hk, hm, q, e => by
    refine ⟨hC _, ?_⟩
    have ih := fun acc x6 => loop_read_number (C := C) (D := D) hC data hdl place many hm1 hpl n (k + 1) acc x2 (.val (.int (k : Nat))) x6 (by omega) (by omega)
    show b_read_number_1 C { D with nx := forL (gN 5) (b_read_number_1 C) D C' ((List.range' (k + 1) n).map fun i => .val (.int (i : Nat))), ct := forL (gN 5) (b_read_number_1 C) D C' ((List.range' (k + 1) n).map fun i => .val (.int (i : Nat))), bk := D.nx } [.val (.tuple (intL data)), .val (.int place), x2, .val (.int many), .val (.int acc), .val (.int (k : Nat)), x6] []
    generalize forL (gN 5) (b_read_number_1 C) D C' ((List.range' (k + 1) n).map fun i => .val (.int (i : Nat))) = K at ih ⊢
    simp only [b_read_number_1, dSeq, dAsg, dRet, dRetN, dIfS, dDrop, dPar, dAug, dNext, dBreak, dCont, gN, gT, gs0_nil, gsC_cons, put, slot, dVar, dC, dOp2, dOp1, dTest, asB, dTruth, dNot, dAnd, dOr, dAndV, dOrV, dNotV, dIf, dChain, bOf, vw, vws, mem, mput, dTup, dLst, dLstM, dNil, dCons, vals, dSl, dPart, dNoPart, asI, pSl, pAdd, pSub, pMul, pNeg, pDiv, pMod, pLt, pLe, pGt, pGe, pInt, pIntC, pEq, pNe, pIx, pIsN, pIsNotN, pIsB, pIsNotB, pIn, pNotIn, isNone, dB, pLen, pTupleOf, pListOf, pItems, dBM, dMl, onL, pAppend, pExtend, pPopAt, dFz, asV, gSubL, dIs, isK, dRaise, dMkX, pTru, DV.is, DV.within, dIt, items, dR1, dR2, rangeD, dFor, dForT, dLc, dLcM, wipeD, dYes, dCall, refsOf, inn, back, wb, outn, List.map_cons, List.map_nil, List.length_cons, List.length_nil, List.cons_append, List.nil_append, List.append_nil, List.drop_nil, List.take_nil, List.drop_zero, true_and, and_true, if_true, ite_true, forall_const, Bool.not_true, Bool.not_false, Bool.false_eq_true, if_false, shp_int, shp_none, shp_bool, shp_nil, eqv_int, eqv_list_nil, atI_last, atI_0, atI_1, atI_2, atI_3, map_val_int, Int.reduceNeg, atI_map, pMax, pMin, pSum, pAll, pAny, pToInt, pAbs, exists_eq_left', exists_eq_left, Option.some.injEq, isEmpty_snoc, cutD_init, List.contains_nil, List.drop_succ_cons, List.take_succ_cons, sl, Nat.reduceAdd, Nat.reduceLeDiff, Nat.reduceLT, Int.reduceLT, Int.reduceLE, Int.reduceAdd, Int.reduceSub, Int.reduceMul, Int.reduceEq, eq_self, Nat.zero_add, decide_true, decide_false]
    unfold readD at q e
    refine spec_byte_at data k (by omega) (fun b hb => ?_) fun hp => ?_
    · have hb' : data[k]? = some b := by simpa using hb
      simp only [hb'] at q e
      simp only [c_ALONE, c_BYTE, dSeq, dAsg, dRet, dRetN, dIfS, dDrop, dPar, dAug, dNext, dBreak, dCont, gN, gT, gs0_nil, gsC_cons, put, slot, dVar, dC, dOp2, dOp1, dTest, asB, dTruth, dNot, dAnd, dOr, dAndV, dOrV, dNotV, dIf, dChain, bOf, vw, vws, mem, mput, dTup, dLst, dLstM, dNil, dCons, vals, dSl, dPart, dNoPart, asI, pSl, pAdd, pSub, pMul, pNeg, pDiv, pMod, pLt, pLe, pGt, pGe, pInt, pIntC, pEq, pNe, pIx, pIsN, pIsNotN, pIsB, pIsNotB, pIn, pNotIn, isNone, dB, pLen, pTupleOf, pListOf, pItems, dBM, dMl, onL, pAppend, pExtend, pPopAt, dFz, asV, gSubL, dIs, isK, dRaise, dMkX, pTru, DV.is, DV.within, dIt, items, dR1, dR2, rangeD, dFor, dForT, dLc, dLcM, wipeD, dYes, dCall, refsOf, inn, back, wb, outn, List.map_cons, List.map_nil, List.length_cons, List.length_nil, List.cons_append, List.nil_append, List.append_nil, List.drop_nil, List.take_nil, List.drop_zero, true_and, and_true, if_true, ite_true, forall_const, Bool.not_true, Bool.not_false, Bool.false_eq_true, if_false, shp_int, shp_none, shp_bool, shp_nil, eqv_int, eqv_list_nil, atI_last, atI_0, atI_1, atI_2, atI_3, map_val_int, Int.reduceNeg, atI_map, pMax, pMin, pSum, pAll, pAny, pToInt, pAbs, exists_eq_left', exists_eq_left, Option.some.injEq, isEmpty_snoc, cutD_init, List.contains_nil, List.drop_succ_cons, List.take_succ_cons, sl, Nat.reduceAdd, Nat.reduceLeDiff, Nat.reduceLT, Int.reduceLT, Int.reduceLE, Int.reduceAdd, Int.reduceSub, Int.reduceMul, Int.reduceEq, eq_self, Nat.zero_add, decide_true, decide_false]
      have go : (∀ v x5 x6, readD data many n (k + 1) (acc * 256 + b) = .inl v → D.nx [.val (.tuple (intL data)), .val (.int place), x2, .val (.int many), .val (.int v), x5, x6] []) →
          (∀ b' ρ', readD data many n (k + 1) (acc * 256 + b) = .inr b' → D.ex (.own (C "BadBytes") [("place", .int b')]) ρ' []) → CMulA acc 256 ∧ K [.val (.tuple (intL data)), .val (.int place), x2, .val (.int many), .val (.int (acc * 256 + b)), .val (.int (k : Nat)), .val (.int b)] [] := fun q e =>
        ⟨cmul_r (by decide) (by decide), ih _ _ q e⟩
      have hkl := (List.getElem?_eq_some_iff.mp hb').1
      by_cases h1 : n + 1 = many
      · have e1 : (k : Int) = place + 1 := by omega
        rw [if_pos (decide_eq_true e1)]
        by_cases h2 : many = 1
        · rw [if_pos (decide_eq_true (by omega))]
          by_cases h3 : b < 192
          · rw [if_pos (decide_eq_true h3)]
            rw [if_pos ⟨h1, by rw [if_pos h2]; exact h3⟩] at e
            exact ⟨log2_small (by omega) (by omega), e _ _ rfl⟩
          · rw [if_neg (by simpa using h3)]
            rw [if_neg (fun z => h3 (by have := z.2; rw [if_pos h2] at this; exact this))] at q e
            exact go q e
        · rw [if_neg (by simp; omega)]
          by_cases h3 : b < 1
          · rw [if_pos (decide_eq_true h3)]
            rw [if_pos ⟨h1, by rw [if_neg h2]; exact h3⟩] at e
            exact ⟨log2_small (by omega) (by omega), e _ _ rfl⟩
          · rw [if_neg (by simpa using h3)]
            rw [if_neg (fun z => h3 (by have := z.2; rw [if_neg h2] at this; exact this))] at q e
            exact go q e
      · rw [if_neg (by simp; omega)]
        rw [if_neg (fun z => h1 z.1)] at q e
        exact go q e
    · have hn : data[k]? = none := List.getElem?_eq_none (by omega)
      simp only [hn] at e
      exact e _ _ rfl
theorem rangeD_range' (k n : Nat) : rangeD (k : Int) n = (List.range' k n).map fun i => .val (.int (i : Nat)) := by
  unfold rangeD
  rw [List.range'_eq_map_range, List.map_map]
  apply List.map_congr_left
  intro i _
  show DV.val (.int ((k : Int) + (i : Nat))) = .val (.int ((k + i : Nat) : Int))
  rw [Int.natCast_add]
theorem spec_read_number {C : Str → Addr} (data : List Int) (hd : ∀ b ∈ data, 0 ≤ b ∧ b < 256) (hdl : data.length ≤ 1000000) (place : Nat) (hp : place ≤ 1000000) {Q : DQ} {E : DX}
    (q : ∀ v p, readN data place = .inl (v, p) → Q (.val (.tuple [.int v, .int (p : Nat)])) []) (e : ∀ b, readN data place = .inr b → E (.own (C "BadBytes") [("place", .int b)]) []) :
    W_read_number C [.val (.tuple (intL data)), .val (.int place)] [] Q E := by
  refine ⟨rfl, ?_⟩
  simp only [B_read_number, dSeq, dAsg, dRet, dRetN, dIfS, dDrop, dPar, dAug, dNext, dBreak, dCont, gN, gT, gs0_nil, gsC_cons, put, slot, dVar, dC, dOp2, dOp1, dTest, asB, dTruth, dNot, dAnd, dOr, dAndV, dOrV, dNotV, dIf, dChain, bOf, vw, vws, mem, mput, dTup, dLst, dLstM, dNil, dCons, vals, dSl, dPart, dNoPart, asI, pSl, pAdd, pSub, pMul, pNeg, pDiv, pMod, pLt, pLe, pGt, pGe, pInt, pIntC, pEq, pNe, pIx, pIsN, pIsNotN, pIsB, pIsNotB, pIn, pNotIn, isNone, dB, pLen, pTupleOf, pListOf, pItems, dBM, dMl, onL, pAppend, pExtend, pPopAt, dFz, asV, gSubL, dIs, isK, dRaise, dMkX, pTru, DV.is, DV.within, dIt, items, dR1, dR2, rangeD, dFor, dForT, dLc, dLcM, wipeD, dYes, dCall, refsOf, inn, back, wb, outn, List.map_cons, List.map_nil, List.length_cons, List.length_nil, List.cons_append, List.nil_append, List.append_nil, List.drop_nil, List.take_nil, List.drop_zero, true_and, and_true, if_true, ite_true, forall_const, Bool.not_true, Bool.not_false, Bool.false_eq_true, if_false, shp_int, shp_none, shp_bool, shp_nil, eqv_int, eqv_list_nil, atI_last, atI_0, atI_1, atI_2, atI_3, map_val_int, Int.reduceNeg, atI_map, pMax, pMin, pSum, pAll, pAny, pToInt, pAbs, exists_eq_left', exists_eq_left, Option.some.injEq, isEmpty_snoc, cutD_init, List.contains_nil, List.drop_succ_cons, List.take_succ_cons, sl, Nat.reduceAdd, Nat.reduceLeDiff, Nat.reduceLT, Int.reduceLT, Int.reduceLE, Int.reduceAdd, Int.reduceSub, Int.reduceMul, Int.reduceEq, eq_self, Nat.zero_add, decide_true, decide_false, List.replicate]
  unfold readN at q e
  refine spec_byte_at data place (by omega) (fun b hb => ?_) fun hz => ?_
  · have hb' : data[place]? = some b := by simpa using hb
    simp only [hb'] at q e
    obtain ⟨b0, b1⟩ := hd b (List.mem_of_getElem? hb')
    simp only [c_ALONE, dSeq, dAsg, dRet, dRetN, dIfS, dDrop, dPar, dAug, dNext, dBreak, dCont, gN, gT, gs0_nil, gsC_cons, put, slot, dVar, dC, dOp2, dOp1, dTest, asB, dTruth, dNot, dAnd, dOr, dAndV, dOrV, dNotV, dIf, dChain, bOf, vw, vws, mem, mput, dTup, dLst, dLstM, dNil, dCons, vals, dSl, dPart, dNoPart, asI, pSl, pAdd, pSub, pMul, pNeg, pDiv, pMod, pLt, pLe, pGt, pGe, pInt, pIntC, pEq, pNe, pIx, pIsN, pIsNotN, pIsB, pIsNotB, pIn, pNotIn, isNone, dB, pLen, pTupleOf, pListOf, pItems, dBM, dMl, onL, pAppend, pExtend, pPopAt, dFz, asV, gSubL, dIs, isK, dRaise, dMkX, pTru, DV.is, DV.within, dIt, items, dR1, dR2, rangeD, dFor, dForT, dLc, dLcM, wipeD, dYes, dCall, refsOf, inn, back, wb, outn, List.map_cons, List.map_nil, List.length_cons, List.length_nil, List.cons_append, List.nil_append, List.append_nil, List.drop_nil, List.take_nil, List.drop_zero, true_and, and_true, if_true, ite_true, forall_const, Bool.not_true, Bool.not_false, Bool.false_eq_true, if_false, shp_int, shp_none, shp_bool, shp_nil, eqv_int, eqv_list_nil, atI_last, atI_0, atI_1, atI_2, atI_3, map_val_int, Int.reduceNeg, atI_map, pMax, pMin, pSum, pAll, pAny, pToInt, pAbs, exists_eq_left', exists_eq_left, Option.some.injEq, isEmpty_snoc, cutD_init, List.contains_nil, List.drop_succ_cons, List.take_succ_cons, sl, Nat.reduceAdd, Nat.reduceLeDiff, Nat.reduceLT, Int.reduceLT, Int.reduceLE, Int.reduceAdd, Int.reduceSub, Int.reduceMul, Int.reduceEq, eq_self, Nat.zero_add, decide_true, decide_false]
    by_cases h : b < 192
    · rw [if_pos h] at q
      rw [if_pos (decide_eq_true h)]
      have := q _ _ rfl
      rw [Int.natCast_add] at this
      exact this
    · rw [if_neg h] at q e
      rw [if_neg (by simpa using h)]
      obtain ⟨m, em⟩ : ∃ m : Nat, b - 191 = m := ⟨(b - 191).toNat, by omega⟩
      have em2 : b - 192 + 1 = (m : Int) := by omega
      have em3 : (b - 191).toNat = m := by omega
      rw [em3] at q e
      rw [em2]
      refine ⟨by omega, by omega, by omega, by omega, ?_⟩
      have e1 : ((place : Int) + 1 + m - (place + 1)).toNat = m := by omega
      have e2 : ∀ n, List.map (fun i => DV.val (PyData.int ((place : Int) + 1 + (i : Nat)))) (List.range n) = (List.range' (place + 1) n).map fun i => .val (.int (i : Nat)) := fun n => rangeD_range' (place + 1) n
      rw [e1, e2]
      refine loop_read_number (fun _ => trivial) data hdl place m (by omega) hp m (place + 1) 0 _ _ _ rfl (Nat.le_refl _) (fun v x5 x6 hv => ?_) fun k ρ' hk => ?_
      · simp only [dSeq, dAsg, dRet, dRetN, dIfS, dDrop, dPar, dAug, dNext, dBreak, dCont, gN, gT, gs0_nil, gsC_cons, put, slot, dVar, dC, dOp2, dOp1, dTest, asB, dTruth, dNot, dAnd, dOr, dAndV, dOrV, dNotV, dIf, dChain, bOf, vw, vws, mem, mput, dTup, dLst, dLstM, dNil, dCons, vals, dSl, dPart, dNoPart, asI, pSl, pAdd, pSub, pMul, pNeg, pDiv, pMod, pLt, pLe, pGt, pGe, pInt, pIntC, pEq, pNe, pIx, pIsN, pIsNotN, pIsB, pIsNotB, pIn, pNotIn, isNone, dB, pLen, pTupleOf, pListOf, pItems, dBM, dMl, onL, pAppend, pExtend, pPopAt, dFz, asV, gSubL, dIs, isK, dRaise, dMkX, pTru, DV.is, DV.within, dIt, items, dR1, dR2, rangeD, dFor, dForT, dLc, dLcM, wipeD, dYes, dCall, refsOf, inn, back, wb, outn, List.map_cons, List.map_nil, List.length_cons, List.length_nil, List.cons_append, List.nil_append, List.append_nil, List.drop_nil, List.take_nil, List.drop_zero, true_and, and_true, if_true, ite_true, forall_const, Bool.not_true, Bool.not_false, Bool.false_eq_true, if_false, shp_int, shp_none, shp_bool, shp_nil, eqv_int, eqv_list_nil, atI_last, atI_0, atI_1, atI_2, atI_3, map_val_int, Int.reduceNeg, atI_map, pMax, pMin, pSum, pAll, pAny, pToInt, pAbs, exists_eq_left', exists_eq_left, Option.some.injEq, isEmpty_snoc, cutD_init, List.contains_nil, List.drop_succ_cons, List.take_succ_cons, sl, Nat.reduceAdd, Nat.reduceLeDiff, Nat.reduceLT, Int.reduceLT, Int.reduceLE, Int.reduceAdd, Int.reduceSub, Int.reduceMul, Int.reduceEq, eq_self, Nat.zero_add, decide_true, decide_false]
        rw [hv] at q
        have := q _ _ rfl
        rw [Int.natCast_add, Int.natCast_add] at this
        exact this
      · rw [hk] at e
        exact e _ rfl
  · have hn : data[place]? = none := List.getElem?_eq_none (by omega)
    simp only [hn] at e
    exact e _ rfl

end DL

namespace DL
open PySem L2
def chkF (f b : Int) : Int := (f * 259 + b + 1) % 16777213
def chk (data : List Int) : Int := data.foldl chkF 1
theorem chkF_range (f b : Int) : 0 ≤ chkF f b ∧ chkF f b < 16777213 := ⟨Int.emod_nonneg _ (by decide), Int.emod_lt_of_pos _ (by decide)⟩
theorem fold_range : ∀ (data : List Int) (f : Int), 0 ≤ f ∧ f < 16777213 → 0 ≤ data.foldl chkF f ∧ data.foldl chkF f < 16777213
  | [], f, h => h
  | b :: bs, f, _ => fold_range bs _ (chkF_range f b)
theorem chk_range (data : List Int) : 0 ≤ chk data ∧ chk data < 16777213 := fold_range data 1 (by decide)
theorem loop_check_of {D : DEn} {C : Mem → Prop} (hC : ∀ M, C M) (a : DV) : ∀ (data : List Int) (f : Int) (x : DV), (∀ x', D.nx [a, .val (.int (data.foldl chkF f)), x'] []) → forL (gN 2) b_check_of_1 D C (data.map vI) [a, .val (.int f), x] []
  | [], f, x, k => ⟨hC _, k x⟩
  | b :: bs, f, x, k => by
    refine ⟨hC _, ?_⟩
    have ih := loop_check_of (D := D) hC a bs (chkF f b) (vI b) k
    show b_check_of_1 { D with nx := forL (gN 2) b_check_of_1 D C (bs.map vI), ct := forL (gN 2) b_check_of_1 D C (bs.map vI), bk := D.nx } [a, .val (.int f), vI b] []
    generalize forL (gN 2) b_check_of_1 D C (bs.map vI) = K at ih ⊢
    simp only [b_check_of_1, c_STEP, c_ROUND, dSeq, dAsg, dRet, dRetN, dIfS, dDrop, dPar, dAug, dNext, dBreak, dCont, gN, gT, gs0_nil, gsC_cons, put, slot, dVar, dC, dOp2, dOp1, dTest, asB, dTruth, dNot, dAnd, dOr, dAndV, dOrV, dNotV, dIf, dChain, bOf, vw, vws, mem, mput, dTup, dLst, dLstM, dNil, dCons, vals, dSl, dPart, dNoPart, asI, pSl, pAdd, pSub, pMul, pNeg, pDiv, pMod, pLt, pLe, pGt, pGe, pInt, pIntC, pEq, pNe, pIx, pIsN, pIsNotN, pIsB, pIsNotB, pIn, pNotIn, isNone, dB, pLen, pTupleOf, pListOf, pItems, dBM, dMl, onL, pAppend, pExtend, pPopAt, dFz, asV, gSubL, dIs, isK, dRaise, dMkX, pTru, DV.is, DV.within, dIt, items, dR1, dR2, rangeD, dFor, dForT, dLc, dLcM, wipeD, dYes, dCall, refsOf, inn, back, wb, outn, List.map_cons, List.map_nil, List.length_cons, List.length_nil, List.cons_append, List.nil_append, List.append_nil, List.drop_nil, List.take_nil, List.drop_zero, true_and, and_true, if_true, ite_true, forall_const, Bool.not_true, Bool.not_false, Bool.false_eq_true, if_false, shp_int, shp_none, shp_bool, shp_nil, eqv_int, eqv_list_nil, atI_last, atI_0, atI_1, atI_2, atI_3, map_val_int, Int.reduceNeg, atI_map, pMax, pMin, pSum, pAll, pAny, pToInt, pAbs, exists_eq_left', exists_eq_left, Option.some.injEq, isEmpty_snoc, cutD_init, List.contains_nil, List.drop_succ_cons, List.take_succ_cons, sl, Nat.reduceAdd, Nat.reduceLeDiff, Nat.reduceLT, Int.reduceLT, Int.reduceLE, Int.reduceAdd, Int.reduceSub, Int.reduceMul, Int.reduceEq, eq_self, Nat.zero_add, decide_true, decide_false]
    exact ⟨cmul_r (by decide) (by decide), ih⟩
theorem spec_check_of (data : List Int) (x : PyData) (hx : x = .list (intL data) ∨ x = .tuple (intL data)) {Q : DQ} {E : DX} (q : Q (.val (.int (chk data))) []) : W_check_of [.val x] [] Q E := by
  refine ⟨rfl, ?_⟩
  rcases hx with rfl | rfl
  all_goals
    simp only [B_check_of, dSeq, dAsg, dRet, dRetN, dIfS, dDrop, dPar, dAug, dNext, dBreak, dCont, gN, gT, gs0_nil, gsC_cons, put, slot, dVar, dC, dOp2, dOp1, dTest, asB, dTruth, dNot, dAnd, dOr, dAndV, dOrV, dNotV, dIf, dChain, bOf, vw, vws, mem, mput, dTup, dLst, dLstM, dNil, dCons, vals, dSl, dPart, dNoPart, asI, pSl, pAdd, pSub, pMul, pNeg, pDiv, pMod, pLt, pLe, pGt, pGe, pInt, pIntC, pEq, pNe, pIx, pIsN, pIsNotN, pIsB, pIsNotB, pIn, pNotIn, isNone, dB, pLen, pTupleOf, pListOf, pItems, dBM, dMl, onL, pAppend, pExtend, pPopAt, dFz, asV, gSubL, dIs, isK, dRaise, dMkX, pTru, DV.is, DV.within, dIt, items, dR1, dR2, rangeD, dFor, dForT, dLc, dLcM, wipeD, dYes, dCall, refsOf, inn, back, wb, outn, List.map_cons, List.map_nil, List.length_cons, List.length_nil, List.cons_append, List.nil_append, List.append_nil, List.drop_nil, List.take_nil, List.drop_zero, true_and, and_true, if_true, ite_true, forall_const, Bool.not_true, Bool.not_false, Bool.false_eq_true, if_false, shp_int, shp_none, shp_bool, shp_nil, eqv_int, eqv_list_nil, atI_last, atI_0, atI_1, atI_2, atI_3, map_val_int, Int.reduceNeg, atI_map, pMax, pMin, pSum, pAll, pAny, pToInt, pAbs, exists_eq_left', exists_eq_left, Option.some.injEq, isEmpty_snoc, cutD_init, List.contains_nil, List.drop_succ_cons, List.take_succ_cons, sl, Nat.reduceAdd, Nat.reduceLeDiff, Nat.reduceLT, Int.reduceLT, Int.reduceLE, Int.reduceAdd, Int.reduceSub, Int.reduceMul, Int.reduceEq, eq_self, Nat.zero_add, decide_true, decide_false, List.replicate]
    exact loop_check_of (fun _ => trivial) _ data 1 .no fun x' => ⟨rfl, trivial, q⟩

end DL

namespace DL
open PySem L2
def chk3 (c : Int) : List Int := [c / 65536, c / 256 % 256, c % 256]
def sealD (data : List Int) : List Int := numB data.length ++ data ++ chk3 (chk data)
theorem numB_len (n : Nat) (h : n < 256 ^ 64) : (numB n).length ≤ 65 := by
  unfold numB
  split
  · simp
  · have := digs_len 64 n h
    simp; omega
theorem spec_sealed (data : List Int) (x : PyData) (hx : x = .list (intL data) ∨ x = .tuple (intL data)) (hl : data.length ≤ 1000000) {Q : DQ} {E : DX} (q : Q (.val (.tuple (intL (sealD data)))) []) : W_sealed [.val x] [] Q E := by
  have hp : data.length < 256 ^ 64 := Nat.lt_of_le_of_lt hl (by decide)
  have hn := numB_len data.length hp
  have e : intL (sealD data) = intL (numB data.length) ++ intL data ++ [.int (chk data / 65536), .int (chk data / 256 % 256), .int (chk data % 256)] := by
    simp [sealD, chk3, intL]
  rw [e] at q
  refine ⟨rfl, ?_⟩
  rcases hx with rfl | rfl
  all_goals
    simp only [B_sealed, dSeq, dAsg, dRet, dRetN, dIfS, dDrop, dPar, dAug, dNext, dBreak, dCont, gN, gT, gs0_nil, gsC_cons, put, slot, dVar, dC, dOp2, dOp1, dTest, asB, dTruth, dNot, dAnd, dOr, dAndV, dOrV, dNotV, dIf, dChain, bOf, vw, vws, mem, mput, dTup, dLst, dLstM, dNil, dCons, vals, dSl, dPart, dNoPart, asI, pSl, pAdd, pSub, pMul, pNeg, pDiv, pMod, pLt, pLe, pGt, pGe, pInt, pIntC, pEq, pNe, pIx, pIsN, pIsNotN, pIsB, pIsNotB, pIn, pNotIn, isNone, dB, pLen, pTupleOf, pListOf, pItems, dBM, dMl, onL, pAppend, pExtend, pPopAt, dFz, asV, gSubL, dIs, isK, dRaise, dMkX, pTru, DV.is, DV.within, dIt, items, dR1, dR2, rangeD, dFor, dForT, dLc, dLcM, wipeD, dYes, dCall, refsOf, inn, back, wb, outn, List.map_cons, List.map_nil, List.length_cons, List.length_nil, List.cons_append, List.nil_append, List.append_nil, List.drop_nil, List.take_nil, List.drop_zero, true_and, and_true, if_true, ite_true, forall_const, Bool.not_true, Bool.not_false, Bool.false_eq_true, if_false, shp_int, shp_none, shp_bool, shp_nil, eqv_int, eqv_list_nil, atI_last, atI_0, atI_1, atI_2, atI_3, map_val_int, Int.reduceNeg, atI_map, pMax, pMin, pSum, pAll, pAny, pToInt, pAbs, exists_eq_left', exists_eq_left, Option.some.injEq, isEmpty_snoc, cutD_init, List.contains_nil, List.drop_succ_cons, List.take_succ_cons, sl, Nat.reduceAdd, Nat.reduceLeDiff, Nat.reduceLT, Int.reduceLT, Int.reduceLE, Int.reduceAdd, Int.reduceSub, Int.reduceMul, Int.reduceEq, eq_self, Nat.zero_add, decide_true, decide_false, List.replicate]
    refine spec_check_of data _ (by first | exact .inl rfl | exact .inr rfl) ?_
    simp only [dSeq, dAsg, dRet, dRetN, dIfS, dDrop, dPar, dAug, dNext, dBreak, dCont, gN, gT, gs0_nil, gsC_cons, put, slot, dVar, dC, dOp2, dOp1, dTest, asB, dTruth, dNot, dAnd, dOr, dAndV, dOrV, dNotV, dIf, dChain, bOf, vw, vws, mem, mput, dTup, dLst, dLstM, dNil, dCons, vals, dSl, dPart, dNoPart, asI, pSl, pAdd, pSub, pMul, pNeg, pDiv, pMod, pLt, pLe, pGt, pGe, pInt, pIntC, pEq, pNe, pIx, pIsN, pIsNotN, pIsB, pIsNotB, pIn, pNotIn, isNone, dB, pLen, pTupleOf, pListOf, pItems, dBM, dMl, onL, pAppend, pExtend, pPopAt, dFz, asV, gSubL, dIs, isK, dRaise, dMkX, pTru, DV.is, DV.within, dIt, items, dR1, dR2, rangeD, dFor, dForT, dLc, dLcM, wipeD, dYes, dCall, refsOf, inn, back, wb, outn, List.map_cons, List.map_nil, List.length_cons, List.length_nil, List.cons_append, List.nil_append, List.append_nil, List.drop_nil, List.take_nil, List.drop_zero, true_and, and_true, if_true, ite_true, forall_const, Bool.not_true, Bool.not_false, Bool.false_eq_true, if_false, shp_int, shp_none, shp_bool, shp_nil, eqv_int, eqv_list_nil, atI_last, atI_0, atI_1, atI_2, atI_3, map_val_int, Int.reduceNeg, atI_map, pMax, pMin, pSum, pAll, pAny, pToInt, pAbs, exists_eq_left', exists_eq_left, Option.some.injEq, isEmpty_snoc, cutD_init, List.contains_nil, List.drop_succ_cons, List.take_succ_cons, sl, Nat.reduceAdd, Nat.reduceLeDiff, Nat.reduceLT, Int.reduceLT, Int.reduceLE, Int.reduceAdd, Int.reduceSub, Int.reduceMul, Int.reduceEq, eq_self, Nat.zero_add, decide_true, decide_false, List.length_map]
    intro _
    refine spec_number_bytes data.length hp ?_
    simp only [c_BYTE, dSeq, dAsg, dRet, dRetN, dIfS, dDrop, dPar, dAug, dNext, dBreak, dCont, gN, gT, gs0_nil, gsC_cons, put, slot, dVar, dC, dOp2, dOp1, dTest, asB, dTruth, dNot, dAnd, dOr, dAndV, dOrV, dNotV, dIf, dChain, bOf, vw, vws, mem, mput, dTup, dLst, dLstM, dNil, dCons, vals, dSl, dPart, dNoPart, asI, pSl, pAdd, pSub, pMul, pNeg, pDiv, pMod, pLt, pLe, pGt, pGe, pInt, pIntC, pEq, pNe, pIx, pIsN, pIsNotN, pIsB, pIsNotB, pIn, pNotIn, isNone, dB, pLen, pTupleOf, pListOf, pItems, dBM, dMl, onL, pAppend, pExtend, pPopAt, dFz, asV, gSubL, dIs, isK, dRaise, dMkX, pTru, DV.is, DV.within, dIt, items, dR1, dR2, rangeD, dFor, dForT, dLc, dLcM, wipeD, dYes, dCall, refsOf, inn, back, wb, outn, List.map_cons, List.map_nil, List.length_cons, List.length_nil, List.cons_append, List.nil_append, List.append_nil, List.drop_nil, List.take_nil, List.drop_zero, true_and, and_true, if_true, ite_true, forall_const, Bool.not_true, Bool.not_false, Bool.false_eq_true, if_false, shp_int, shp_none, shp_bool, shp_nil, eqv_int, eqv_list_nil, atI_last, atI_0, atI_1, atI_2, atI_3, map_val_int, Int.reduceNeg, atI_map, pMax, pMin, pSum, pAll, pAny, pToInt, pAbs, exists_eq_left', exists_eq_left, Option.some.injEq, isEmpty_snoc, cutD_init, List.contains_nil, List.drop_succ_cons, List.take_succ_cons, sl, Nat.reduceAdd, Nat.reduceLeDiff, Nat.reduceLT, Int.reduceLT, Int.reduceLE, Int.reduceAdd, Int.reduceSub, Int.reduceMul, Int.reduceEq, eq_self, Nat.zero_add, decide_true, decide_false, List.length_map, List.length_append]
    refine ⟨by omega, cdiv_of (by decide) (by decide), cdiv_of (by decide) (by decide), by omega, q⟩

end DL

namespace DL
open PySem L2
/-! what read_number tells, in plain words -/
abbrev catI (a b : Int) : Int := a * 256 + b
theorem readD_rest (data : List Int) (many : Nat) : ∀ (n k : Nat) (acc : Int), n < many → k ≤ data.length → readD data many n k acc = if k + n ≤ data.length then .inl (((data.drop k).take n).foldl catI acc) else .inr data.length
  | 0, k, acc, _, hk => by simp [readD, hk]
  | n + 1, k, acc, hn, hk => by
    unfold readD
    by_cases h : k < data.length
    · rw [List.getElem?_eq_getElem h]
      simp only
      rw [if_neg (fun z => by omega), readD_rest data many n (k + 1) _ (by omega) h]
      have e : data.drop k = data[k] :: data.drop (k + 1) := List.drop_eq_getElem_cons h
      rw [e, List.take_succ_cons, List.foldl_cons]
      by_cases h2 : k + 1 + n ≤ data.length
      · rw [if_pos h2, if_pos (by omega)]
      · rw [if_neg h2, if_neg (by omega)]
    · rw [List.getElem?_eq_none (by omega)]
      simp only
      rw [if_neg (by omega)]
def lawP (data : List Int) (place : Nat) : Option Nat := match data[place]? with
  | none => some data.length
  | some b => if b < 192 then none else if ∃ c, data[place + 1]? = some c ∧ c < (if b = 192 then 192 else 1) then some (place + 1) else if place + 1 + (b - 191).toNat > data.length then some data.length else none
theorem digs_fold : ∀ (bs : List Int), (∀ b ∈ bs, 0 ≤ b ∧ b < 256) → ∀ (n : Nat), n ≠ 0 → ∃ m : Nat, bs.foldl catI n = m ∧ digs m = digs n ++ bs ∧ m ≠ 0
  | [], _, n, hn => ⟨n, rfl, by simp, hn⟩
  | b :: bs, h, n, hn => by
    obtain ⟨h0, h1⟩ := h b List.mem_cons_self
    obtain ⟨k, hk⟩ : ∃ k : Nat, b = k := ⟨b.toNat, by omega⟩
    have e : catI (n : Int) b = ((n * 256 + k : Nat) : Int) := by unfold catI; rw [hk]; push_cast; rfl
    obtain ⟨m, e1, e2, e3⟩ := digs_fold bs (fun b hb => h b (List.mem_cons_of_mem _ hb)) (n * 256 + k) (by omega)
    refine ⟨m, by rw [List.foldl_cons, e, e1], ?_, e3⟩
    rw [e2, digs_pos (show n * 256 + k ≠ 0 by omega), show (n * 256 + k) / 256 = n by omega, show (n * 256 + k) % 256 = k by omega, ← hk, List.append_assoc]
    rfl
theorem digs_small {n : Nat} (h0 : n ≠ 0) (h : n < 256) : digs n = [(n : Int)] := by
  rw [digs_pos h0, show n / 256 = 0 by omega, digs_0, show n % 256 = n by omega]; rfl
theorem digs_len1 {n : Nat} (h : (digs n).length = 1) : n < 256 ∧ n ≠ 0 := by
  by_cases h0 : n = 0
  · subst h0; rw [digs_0] at h; cases h
  · refine ⟨?_, h0⟩
    rw [digs_pos h0, List.length_append, List.length_singleton] at h
    by_cases h1 : n / 256 = 0
    · omega
    · rw [digs_pos h1, List.length_append, List.length_singleton] at h; omega
theorem digs_len_ge2 {n : Nat} (h : 2 ≤ (digs n).length) : 256 ≤ n := by
  by_cases h0 : n = 0
  · subst h0; rw [digs_0] at h; simp at h
  · by_cases h1 : n < 256
    · rw [digs_small h0 h1] at h; simp at h
    · omega
theorem digs_lt (n : Nat) : n < 256 ^ (digs n).length := by
  induction n using Nat.strongRecOn with
  | _ n ih =>
    by_cases h0 : n = 0
    · subst h0; rw [digs_0]; decide
    · rw [digs_pos h0, List.length_append, List.length_singleton, Nat.pow_succ]
      have := ih (n / 256) (by omega)
      omega
theorem numB_lt {n : Nat} (h : ∀ b ∈ numB n, b < 256) : n < 256 ^ 64 := by
  unfold numB at h
  by_cases h1 : n < 192
  · exact Nat.lt_of_lt_of_le h1 (by decide)
  · rw [if_neg h1] at h
    have := h _ List.mem_cons_self
    exact Nat.lt_of_lt_of_le (digs_lt n) (Nat.pow_le_pow_right (by decide) (by omega))
theorem readN_inl {data : List Int} (hd : ∀ b ∈ data, 0 ≤ b ∧ b < 256) {place : Nat} {v : Int} {p : Nat} (h : readN data place = .inl (v, p)) : lawP data place = none ∧ place < p ∧ p ≤ data.length ∧ ∃ n : Nat, v = n ∧ numB n = (data.drop place).take (p - place) := by
  unfold readN at h
  cases hb : data[place]? with
  | none => rw [hb] at h; cases h
  | some b =>
    rw [hb] at h
    have hlt := (List.getElem?_eq_some_iff.mp hb).1
    have hb2 := (List.getElem?_eq_some_iff.mp hb).2
    obtain ⟨b0, b1⟩ := hd b (List.mem_of_getElem? hb)
    have edrop : data.drop place = b :: data.drop (place + 1) := by rw [List.drop_eq_getElem_cons hlt, hb2]
    simp only at h
    unfold lawP
    rw [hb]
    simp only
    by_cases h1 : b < 192
    · rw [if_pos h1] at h ⊢
      cases h
      refine ⟨rfl, by omega, by omega, v.toNat, by omega, ?_⟩
      rw [show place + 1 - place = 1 by omega, edrop]
      unfold numB
      rw [if_pos (by omega)]
      simp; omega
    · rw [if_neg h1] at h ⊢
      obtain ⟨m, em⟩ : ∃ m : Nat, (b - 191).toNat = m + 1 := ⟨(b - 191).toNat - 1, by omega⟩
      rw [em] at h ⊢
      unfold readD at h
      cases hc : data[place + 1]? with
      | none => rw [hc] at h; cases h
      | some c =>
        rw [hc] at h
        have hclt := (List.getElem?_eq_some_iff.mp hc).1
        have hc2 := (List.getElem?_eq_some_iff.mp hc).2
        obtain ⟨c0, c1⟩ := hd c (List.mem_of_getElem? hc)
        simp only at h
        by_cases h2 : c < (if m + 1 = 1 then 192 else 1)
        · rw [if_pos ⟨trivial, h2⟩] at h; cases h
        · rw [if_neg (fun z => h2 z.2), readD_rest data (m + 1) m (place + 1 + 1) _ (by omega) hclt] at h
          by_cases h3 : place + 1 + 1 + m ≤ data.length
          · rw [if_pos h3] at h
            simp only [Sum.inl.injEq, Prod.mk.injEq] at h
            obtain ⟨e1, e2⟩ := h
            have hif : (if b = 192 then (192 : Int) else 1) = (if m + 1 = 1 then 192 else 1) := by
              by_cases hm : m = 0
              · rw [if_pos (by omega), if_pos (by omega)]
              · rw [if_neg (by omega), if_neg (by omega)]
            refine ⟨?_, by omega, by omega, ?_⟩
            · rw [if_neg (fun ⟨c', z1, z2⟩ => by cases z1; rw [hif] at z2; exact h2 z2), if_neg (by omega)]
            · have c1' : 1 ≤ c := by
                by_cases hm : m = 0
                · rw [if_pos (by omega)] at h2; omega
                · rw [if_neg (by omega)] at h2; omega
              have es : ∀ x ∈ (data.drop (place + 1 + 1)).take m, 0 ≤ x ∧ x < 256 := fun x hx => hd x (List.mem_of_mem_drop (List.mem_of_mem_take hx))
              obtain ⟨N, n1, n2, n3⟩ := digs_fold _ es c.toNat (by omega)
              have ec : catI 0 c = (c.toNat : Int) := by unfold catI; omega
              have e1' : v = N := by rw [← e1, show (0 : Int) * 256 + c = catI 0 c from rfl, ec, n1]
              rw [digs_small (n := c.toNat) (by omega) (by omega), show (c.toNat : Int) = c by omega] at n2
              refine ⟨N, e1', ?_⟩
              have dl : (digs N).length = m + 1 := by rw [n2]; simp; omega
              have big : ¬ N < 192 := by
                by_cases hm : m = 0
                · subst hm
                  rw [if_pos rfl] at h2
                  have : digs N = [c] := by rw [n2]; simp
                  obtain ⟨g1, g2⟩ := digs_len1 (n := N) (by rw [this]; rfl)
                  rw [digs_small g2 g1] at this
                  have : (N : Int) = c := by simpa using this
                  omega
                · have := digs_len_ge2 (n := N) (by omega)
                  omega
              unfold numB
              rw [if_neg big, dl, n2, ← e2, edrop, show place + 1 + (m + 1) - place = (m + 1) + 1 by omega, List.take_succ_cons]
              have ed2 : data.drop (place + 1) = c :: data.drop (place + 1 + 1) := by rw [List.drop_eq_getElem_cons hclt, hc2]
              rw [ed2, List.take_succ_cons]
              have : (191 : Int) + ((m + 1 : Nat) : Int) = b := by omega
              rw [this]
              rfl
          · rw [if_neg h3] at h; cases h
theorem readN_inr {data : List Int} (hd : ∀ b ∈ data, 0 ≤ b ∧ b < 256) {place : Nat} {k : Nat} (h : readN data place = .inr k) : lawP data place = some k ∧ k ≤ data.length := by
  unfold readN at h
  unfold lawP
  cases hb : data[place]? with
  | none =>
    rw [hb] at h
    cases h
    exact ⟨rfl, Nat.le_refl _⟩
  | some b =>
    rw [hb] at h
    have hlt := (List.getElem?_eq_some_iff.mp hb).1
    obtain ⟨b0, b1⟩ := hd b (List.mem_of_getElem? hb)
    simp only at h ⊢
    by_cases h1 : b < 192
    · rw [if_pos h1] at h; cases h
    · rw [if_neg h1] at h ⊢
      obtain ⟨m, em⟩ : ∃ m : Nat, (b - 191).toNat = m + 1 := ⟨(b - 191).toNat - 1, by omega⟩
      rw [em] at h ⊢
      have hif : (if b = 192 then (192 : Int) else 1) = (if m + 1 = 1 then 192 else 1) := by
        by_cases hm : m = 0
        · rw [if_pos (by omega), if_pos (by omega)]
        · rw [if_neg (by omega), if_neg (by omega)]
      unfold readD at h
      cases hc : data[place + 1]? with
      | none =>
        rw [hc] at h
        have hcl := List.getElem?_eq_none_iff.mp hc
        simp only [Sum.inr.injEq] at h
        rw [if_neg (fun ⟨c', z1, z2⟩ => by cases z1), if_pos (by omega), h]
        exact ⟨rfl, by omega⟩
      | some c =>
        rw [hc] at h
        have hclt := (List.getElem?_eq_some_iff.mp hc).1
        simp only at h
        by_cases h2 : c < (if m + 1 = 1 then 192 else 1)
        · rw [if_pos ⟨trivial, h2⟩] at h
          simp only [Sum.inr.injEq] at h
          rw [if_pos ⟨c, rfl, by rw [hif]; exact h2⟩, h]
          exact ⟨rfl, by omega⟩
        · rw [if_neg (fun z => h2 z.2), readD_rest data (m + 1) m (place + 1 + 1) _ (by omega) hclt] at h
          by_cases h3 : place + 1 + 1 + m ≤ data.length
          · rw [if_pos h3] at h; cases h
          · rw [if_neg h3] at h
            simp only [Sum.inr.injEq] at h
            rw [if_neg (fun ⟨c', z1, z2⟩ => by cases z1; rw [hif] at z2; exact h2 z2), if_pos (by omega), h]
            exact ⟨rfl, by omega⟩

end DL

namespace DL
open PySem L2
theorem digs_val (n : Nat) : (digs n).foldl catI 0 = n := by
  induction n using Nat.strongRecOn with
  | _ n ih =>
    by_cases h0 : n = 0
    · subst h0; rw [digs_0]; rfl
    · rw [digs_pos h0, List.foldl_append, ih (n / 256) (by omega)]
      show ((n / 256 : Nat) : Int) * 256 + ((n % 256 : Nat) : Int) = n
      omega
theorem digs_range (n : Nat) : ∀ b ∈ digs n, 0 ≤ b ∧ b < 256 := by
  induction n using Nat.strongRecOn with
  | _ n ih =>
    by_cases h0 : n = 0
    · subst h0; rw [digs_0]; intro b hb; cases hb
    · rw [digs_pos h0]
      intro b hb
      rcases List.mem_append.mp hb with hb | hb
      · exact ih (n / 256) (by omega) b hb
      · rw [List.mem_singleton.mp hb]; omega
theorem digs_head (n : Nat) (h : n ≠ 0) : ∃ c t, digs n = c :: t ∧ 1 ≤ c := by
  induction n using Nat.strongRecOn with
  | _ n ih =>
    by_cases h1 : n / 256 = 0
    · exact ⟨_, _, digs_small h (by omega), by omega⟩
    · obtain ⟨c, t, e, hc⟩ := ih (n / 256) (by omega) h1
      exact ⟨c, t ++ [((n % 256 : Nat) : Int)], by rw [digs_pos h, e]; rfl, hc⟩
theorem numB_pos (n : Nat) : 0 < (numB n).length := by
  unfold numB
  split <;> simp
theorem numB_range (n : Nat) (h : n < 256 ^ 64) : ∀ b ∈ numB n, 0 ≤ b ∧ b < 256 := by
  unfold numB
  intro b hb
  split at hb
  · rw [List.mem_singleton.mp hb]; omega
  · rcases List.mem_cons.mp hb with rfl | hb
    · have := digs_len 64 n h; omega
    · exact digs_range n b hb
theorem readN_trip (head tail : List Int) (n : Nat) (h : n < 256 ^ 64) : readN (head ++ (numB n ++ tail)) head.length = .inl ((n : Int), head.length + (numB n).length) := by
  have hl := digs_len 64 n h
  unfold readN
  unfold numB
  by_cases h1 : n < 192
  · rw [if_pos h1]
    have e : (head ++ ([(n : Int)] ++ tail))[head.length]? = some (n : Int) := by rw [List.getElem?_append_right (Nat.le_refl _), Nat.sub_self]; rfl
    rw [e]
    simp only
    rw [if_pos (by omega)]
    rfl
  · rw [if_neg h1]
    have e : (head ++ ((191 + ((digs n).length : Int)) :: digs n ++ tail))[head.length]? = some (191 + ((digs n).length : Int)) := by rw [List.getElem?_append_right (Nat.le_refl _), Nat.sub_self]; rfl
    rw [e]
    obtain ⟨c, t, ed, hc⟩ := digs_head n (by omega)
    have dl : (digs n).length = t.length + 1 := by rw [ed]; rfl
    simp only
    rw [if_neg (by omega), show ((191 : Int) + ((digs n).length : Int) - 191).toNat = t.length + 1 by omega]
    have e1 : (head ++ ((191 + ((digs n).length : Int)) :: digs n ++ tail))[head.length + 1]? = some c := by
      rw [List.getElem?_append_right (by omega), show head.length + 1 - head.length = 1 by omega, List.cons_append, List.getElem?_cons_succ, ed]; rfl
    have big : ¬ c < (if t.length + 1 = 1 then 192 else 1) := by
      by_cases ht : t.length = 0
      · rw [if_pos (by omega)]
        have et : t = [] := List.eq_nil_of_length_eq_zero ht
        subst et
        obtain ⟨g1, g2⟩ := digs_len1 (n := n) (by omega)
        rw [digs_small g2 g1] at ed
        have : (n : Int) = c := by simpa using ed
        omega
      · rw [if_neg (by omega)]; omega
    have rd : readD (head ++ ((191 + ((digs n).length : Int)) :: digs n ++ tail)) (t.length + 1) (t.length + 1) (head.length + 1) 0 = .inl (n : Int) := by
      unfold readD
      rw [e1]
      simp only
      rw [if_neg (fun z => big z.2), readD_rest _ _ _ _ _ (by omega) (by simp; omega), if_pos (by simp; omega)]
      have ed3 : (head ++ ((191 + ((digs n).length : Int)) :: digs n ++ tail)).drop (head.length + 1 + 1) = t ++ tail := by
        rw [List.drop_append, List.drop_eq_nil_of_le (by omega), List.nil_append, show head.length + 1 + 1 - head.length = 2 by omega, ed]; rfl
      rw [ed3, List.take_left]
      have := digs_val n
      rw [ed, List.foldl_cons] at this
      rw [this]
    rw [rd]
    simp only [List.length_cons]
    rw [dl, show head.length + 1 + (t.length + 1) = head.length + (t.length + 1 + 1) by omega]

end DL

namespace DL
open PySem L2
/-- what opened tells: the bytes inside, or the bad place -/
def openedD (data : List Int) : List Int ⊕ Nat := match readN data 0 with
  | .inr b => .inr b
  | .inl (v, p) => if data.length ≠ p + v.toNat + 3 then .inr (min data.length (p + v.toNat + 3)) else
    if sealD ((data.drop p).take v.toNat) ≠ data then .inr (p + v.toNat) else .inl ((data.drop p).take v.toNat)
theorem spec_opened {C : Str → Addr} (data : List Int) (hd : ∀ b ∈ data, 0 ≤ b ∧ b < 256) (hdl : data.length ≤ 1000000) {Q : DQ} {E : DX}
    (q : ∀ x, openedD data = .inl x → Q (.val (.tuple (intL x))) []) (e : ∀ b, openedD data = .inr b → E (.own (C "BadBytes") [("place", .int b)]) []) : W_opened C [.val (.tuple (intL data))] [] Q E := by
  refine ⟨rfl, ?_⟩
  simp only [B_opened, dSeq, dAsg, dRet, dRetN, dIfS, dDrop, dPar, dAug, dNext, dBreak, dCont, gN, gT, gs0_nil, gsC_cons, put, slot, dVar, dC, dOp2, dOp1, dTest, asB, dTruth, dNot, dAnd, dOr, dAndV, dOrV, dNotV, dIf, dChain, bOf, vw, vws, mem, mput, dTup, dLst, dLstM, dNil, dCons, vals, dSl, dPart, dNoPart, asI, pSl, pAdd, pSub, pMul, pNeg, pDiv, pMod, pLt, pLe, pGt, pGe, pInt, pIntC, pEq, pNe, pIx, pIsN, pIsNotN, pIsB, pIsNotB, pIn, pNotIn, isNone, dB, pLen, pTupleOf, pListOf, pItems, dBM, dMl, onL, pAppend, pExtend, pPopAt, dFz, asV, gSubL, dIs, isK, dRaise, dMkX, pTru, DV.is, DV.within, dIt, items, dR1, dR2, rangeD, dFor, dForT, dLc, dLcM, wipeD, dYes, dCall, refsOf, inn, back, wb, outn, List.map_cons, List.map_nil, List.length_cons, List.length_nil, List.cons_append, List.nil_append, List.append_nil, List.drop_nil, List.take_nil, List.drop_zero, true_and, and_true, if_true, ite_true, forall_const, Bool.not_true, Bool.not_false, Bool.false_eq_true, if_false, shp_int, shp_none, shp_bool, shp_nil, eqv_int, eqv_list_nil, atI_last, atI_0, atI_1, atI_2, atI_3, map_val_int, Int.reduceNeg, atI_map, pMax, pMin, pSum, pAll, pAny, pToInt, pAbs, exists_eq_left', exists_eq_left, Option.some.injEq, isEmpty_snoc, cutD_init, List.contains_nil, List.drop_succ_cons, List.take_succ_cons, sl, Nat.reduceAdd, Nat.reduceLeDiff, Nat.reduceLT, Int.reduceLT, Int.reduceLE, Int.reduceAdd, Int.reduceSub, Int.reduceMul, Int.reduceEq, eq_self, Nat.zero_add, decide_true, decide_false, List.replicate]
  unfold openedD at q e
  refine spec_read_number data hd hdl 0 (by decide) (fun v p h => ?_) fun b h => ?_
  · obtain ⟨_, p0, pl, n, rfl, _⟩ := readN_inl hd h
    rw [h] at q e
    simp only [Int.toNat_natCast] at q e
    simp only [c_CHECK, dSeq, dAsg, dRet, dRetN, dIfS, dDrop, dPar, dAug, dNext, dBreak, dCont, gN, gT, gs0_nil, gsC_cons, put, slot, dVar, dC, dOp2, dOp1, dTest, asB, dTruth, dNot, dAnd, dOr, dAndV, dOrV, dNotV, dIf, dChain, bOf, vw, vws, mem, mput, dTup, dLst, dLstM, dNil, dCons, vals, dSl, dPart, dNoPart, asI, pSl, pAdd, pSub, pMul, pNeg, pDiv, pMod, pLt, pLe, pGt, pGe, pInt, pIntC, pEq, pNe, pIx, pIsN, pIsNotN, pIsB, pIsNotB, pIn, pNotIn, isNone, dB, pLen, pTupleOf, pListOf, pItems, dBM, dMl, onL, pAppend, pExtend, pPopAt, dFz, asV, gSubL, dIs, isK, dRaise, dMkX, pTru, DV.is, DV.within, dIt, items, dR1, dR2, rangeD, dFor, dForT, dLc, dLcM, wipeD, dYes, dCall, refsOf, inn, back, wb, outn, List.map_cons, List.map_nil, List.length_cons, List.length_nil, List.cons_append, List.nil_append, List.append_nil, List.drop_nil, List.take_nil, List.drop_zero, true_and, and_true, if_true, ite_true, forall_const, Bool.not_true, Bool.not_false, Bool.false_eq_true, if_false, shp_int, shp_none, shp_bool, shp_nil, eqv_int, eqv_list_nil, atI_last, atI_0, atI_1, atI_2, atI_3, map_val_int, Int.reduceNeg, atI_map, pMax, pMin, pSum, pAll, pAny, pToInt, pAbs, exists_eq_left', exists_eq_left, Option.some.injEq, isEmpty_snoc, cutD_init, List.contains_nil, List.drop_succ_cons, List.take_succ_cons, sl, Nat.reduceAdd, Nat.reduceLeDiff, Nat.reduceLT, Int.reduceLT, Int.reduceLE, Int.reduceAdd, Int.reduceSub, Int.reduceMul, Int.reduceEq, eq_self, Nat.zero_add, decide_true, decide_false, List.length_map]
    intro hz
    by_cases h1 : data.length = p + n + 3
    · rw [if_neg (by simpa using h1)] at q e
      rw [if_neg (by simp; omega)]
      simp only [cutD_map]
      rw [cutD_mid data (a := (p : Int)) (b := (p : Int) + n) (by omega) (by omega), show (p : Int).toNat = p by omega, show ((p : Int) + n).toNat - p = n by omega]
      refine spec_sealed ((data.drop p).take n) _ (.inr rfl) (by rw [List.length_take, List.length_drop]; omega) ?_
      simp only [dSeq, dAsg, dRet, dRetN, dIfS, dDrop, dPar, dAug, dNext, dBreak, dCont, gN, gT, gs0_nil, gsC_cons, put, slot, dVar, dC, dOp2, dOp1, dTest, asB, dTruth, dNot, dAnd, dOr, dAndV, dOrV, dNotV, dIf, dChain, bOf, vw, vws, mem, mput, dTup, dLst, dLstM, dNil, dCons, vals, dSl, dPart, dNoPart, asI, pSl, pAdd, pSub, pMul, pNeg, pDiv, pMod, pLt, pLe, pGt, pGe, pInt, pIntC, pEq, pNe, pIx, pIsN, pIsNotN, pIsB, pIsNotB, pIn, pNotIn, isNone, dB, pLen, pTupleOf, pListOf, pItems, dBM, dMl, onL, pAppend, pExtend, pPopAt, dFz, asV, gSubL, dIs, isK, dRaise, dMkX, pTru, DV.is, DV.within, dIt, items, dR1, dR2, rangeD, dFor, dForT, dLc, dLcM, wipeD, dYes, dCall, refsOf, inn, back, wb, outn, List.map_cons, List.map_nil, List.length_cons, List.length_nil, List.cons_append, List.nil_append, List.append_nil, List.drop_nil, List.take_nil, List.drop_zero, true_and, and_true, if_true, ite_true, forall_const, Bool.not_true, Bool.not_false, Bool.false_eq_true, if_false, shp_int, shp_none, shp_bool, shp_nil, eqv_int, eqv_list_nil, atI_last, atI_0, atI_1, atI_2, atI_3, map_val_int, Int.reduceNeg, atI_map, pMax, pMin, pSum, pAll, pAny, pToInt, pAbs, exists_eq_left', exists_eq_left, Option.some.injEq, isEmpty_snoc, cutD_init, List.contains_nil, List.drop_succ_cons, List.take_succ_cons, sl, Nat.reduceAdd, Nat.reduceLeDiff, Nat.reduceLT, Int.reduceLT, Int.reduceLE, Int.reduceAdd, Int.reduceSub, Int.reduceMul, Int.reduceEq, eq_self, Nat.zero_add, decide_true, decide_false]
      refine ⟨shp_intT _, shp_intT _, ?_⟩
      rw [eqv_intT]
      by_cases h2 : sealD ((data.drop p).take n) = data
      · rw [if_neg (by simpa using h2)] at q
        rw [if_neg (by simp [h2])]
        exact q _ rfl
      · rw [if_pos h2] at e
        rw [if_pos (by simp [h2])]
        have := e _ rfl
        rw [Int.natCast_add] at this
        exact ⟨log2_small (by omega) (by omega), this⟩
    · rw [if_pos h1] at e
      rw [if_pos (by simp; omega)]
      intro _
      have := e _ rfl
      rw [show ((min data.length (p + n + 3) : Nat) : Int) = min (data.length : Int) ((p : Int) + n + 3) by omega] at this
      exact ⟨log2_small (by omega) (by omega), this⟩
  · rw [h] at e
    exact e _ rfl

end DL

namespace DL
open PySem L2
def numsB (ns : List Nat) : List Int := ns.flatMap numB
abbrev natL (ns : List Nat) : List PyData := intL (ns.map fun n : Nat => (n : Int))
theorem numsB_len : ∀ (ns : List Nat), (∀ n ∈ ns, n < 256 ^ 64) → (numsB ns).length ≤ 65 * ns.length
  | [], _ => by simp [numsB]
  | n :: ns, h => by
    have h1 := numB_len n (h n List.mem_cons_self)
    have h2 := numsB_len ns fun m hm => h m (List.mem_cons_of_mem _ hm)
    simp only [numsB, List.flatMap_cons, List.length_append, List.length_cons] at h2 ⊢
    omega
theorem loop_numbers_bytes {D : DEn} {C : Mem → Prop} (hC : ∀ M, C M) (a : DV) : ∀ (ns : List Nat) (found : List Int) (x : DV), (∀ n ∈ ns, n < 256 ^ 64) → found.length + 65 * ns.length ≤ 1000000 → (∀ x', D.nx [a, .ref 0, x'] [.lst (intL (found ++ numsB ns))]) →
    forL (gN 2) b_numbers_bytes_1 D C (ns.map fun n : Nat => vI n) [a, .ref 0, x] [.lst (intL found)]
  | [], found, x, _, _, k => ⟨hC _, by have := k x; simp only [numsB, List.flatMap_nil, List.append_nil] at this; exact this⟩
  | n :: ns, found, x, hn, hf, k => by
    refine ⟨hC _, ?_⟩
    have hl := numB_len n (hn n List.mem_cons_self)
    simp only [List.length_cons] at hf
    have ih := loop_numbers_bytes (D := D) hC a ns (found ++ numB n) (vI n) (fun m hm => hn m (List.mem_cons_of_mem _ hm)) (by rw [List.length_append]; omega) fun x' => by
      have := k x'
      simp only [numsB, List.flatMap_cons, ← List.append_assoc] at this
      exact this
    show b_numbers_bytes_1 { D with nx := forL (gN 2) b_numbers_bytes_1 D C (ns.map fun n : Nat => vI n), ct := forL (gN 2) b_numbers_bytes_1 D C (ns.map fun n : Nat => vI n), bk := D.nx } [a, .ref 0, vI n] [.lst (intL found)]
    generalize forL (gN 2) b_numbers_bytes_1 D C (ns.map fun n : Nat => vI n) = K at ih ⊢
    simp only [b_numbers_bytes_1, dSeq, dAsg, dRet, dRetN, dIfS, dDrop, dPar, dAug, dNext, dBreak, dCont, gN, gT, gs0_nil, gsC_cons, put, slot, dVar, dC, dOp2, dOp1, dTest, asB, dTruth, dNot, dAnd, dOr, dAndV, dOrV, dNotV, dIf, dChain, bOf, vw, vws, mem, mput, dTup, dLst, dLstM, dNil, dCons, vals, dSl, dPart, dNoPart, asI, pSl, pAdd, pSub, pMul, pNeg, pDiv, pMod, pLt, pLe, pGt, pGe, pInt, pIntC, pEq, pNe, pIx, pIsN, pIsNotN, pIsB, pIsNotB, pIn, pNotIn, isNone, dB, pLen, pTupleOf, pListOf, pItems, dBM, dMl, onL, pAppend, pExtend, pPopAt, dFz, asV, gSubL, dIs, isK, dRaise, dMkX, pTru, DV.is, DV.within, dIt, items, dR1, dR2, rangeD, dFor, dForT, dLc, dLcM, wipeD, dYes, dCall, refsOf, inn, back, wb, outn, List.map_cons, List.map_nil, List.length_cons, List.length_nil, List.cons_append, List.nil_append, List.append_nil, List.drop_nil, List.take_nil, List.drop_zero, true_and, and_true, if_true, ite_true, forall_const, Bool.not_true, Bool.not_false, Bool.false_eq_true, if_false, shp_int, shp_none, shp_bool, shp_nil, eqv_int, eqv_list_nil, atI_last, atI_0, atI_1, atI_2, atI_3, map_val_int, Int.reduceNeg, atI_map, pMax, pMin, pSum, pAll, pAny, pToInt, pAbs, exists_eq_left', exists_eq_left, Option.some.injEq, isEmpty_snoc, cutD_init, List.contains_nil, List.drop_succ_cons, List.take_succ_cons, sl, Nat.reduceAdd, Nat.reduceLeDiff, Nat.reduceLT, Int.reduceLT, Int.reduceLE, Int.reduceAdd, Int.reduceSub, Int.reduceMul, Int.reduceEq, eq_self, Nat.zero_add, decide_true, decide_false]
    refine spec_number_bytes n (hn n List.mem_cons_self) ?_
    simp only [dSeq, dAsg, dRet, dRetN, dIfS, dDrop, dPar, dAug, dNext, dBreak, dCont, gN, gT, gs0_nil, gsC_cons, put, slot, dVar, dC, dOp2, dOp1, dTest, asB, dTruth, dNot, dAnd, dOr, dAndV, dOrV, dNotV, dIf, dChain, bOf, vw, vws, mem, mput, dTup, dLst, dLstM, dNil, dCons, vals, dSl, dPart, dNoPart, asI, pSl, pAdd, pSub, pMul, pNeg, pDiv, pMod, pLt, pLe, pGt, pGe, pInt, pIntC, pEq, pNe, pIx, pIsN, pIsNotN, pIsB, pIsNotB, pIn, pNotIn, isNone, dB, pLen, pTupleOf, pListOf, pItems, dBM, dMl, onL, pAppend, pExtend, pPopAt, dFz, asV, gSubL, dIs, isK, dRaise, dMkX, pTru, DV.is, DV.within, dIt, items, dR1, dR2, rangeD, dFor, dForT, dLc, dLcM, wipeD, dYes, dCall, refsOf, inn, back, wb, outn, List.map_cons, List.map_nil, List.length_cons, List.length_nil, List.cons_append, List.nil_append, List.append_nil, List.drop_nil, List.take_nil, List.drop_zero, true_and, and_true, if_true, ite_true, forall_const, Bool.not_true, Bool.not_false, Bool.false_eq_true, if_false, shp_int, shp_none, shp_bool, shp_nil, eqv_int, eqv_list_nil, atI_last, atI_0, atI_1, atI_2, atI_3, map_val_int, Int.reduceNeg, atI_map, pMax, pMin, pSum, pAll, pAny, pToInt, pAbs, exists_eq_left', exists_eq_left, Option.some.injEq, isEmpty_snoc, cutD_init, List.contains_nil, List.drop_succ_cons, List.take_succ_cons, sl, Nat.reduceAdd, Nat.reduceLeDiff, Nat.reduceLT, Int.reduceLT, Int.reduceLE, Int.reduceAdd, Int.reduceSub, Int.reduceMul, Int.reduceEq, eq_self, Nat.zero_add, decide_true, decide_false, List.length_map]
    simp only [intL, List.map_append] at ih ⊢
    exact ⟨by omega, ih⟩
theorem spec_numbers_bytes (ns : List Nat) (x : PyData) (hx : x = .list (natL ns) ∨ x = .tuple (natL ns)) (hn : ∀ n ∈ ns, n < 256 ^ 64) (hl : ns.length ≤ 10000) {Q : DQ} {E : DX} (q : Q (.val (.list (intL (numsB ns)))) []) : W_numbers_bytes [.val x] [] Q E := by
  refine ⟨rfl, ?_⟩
  rcases hx with rfl | rfl
  all_goals
    simp only [B_numbers_bytes, natL, dSeq, dAsg, dRet, dRetN, dIfS, dDrop, dPar, dAug, dNext, dBreak, dCont, gN, gT, gs0_nil, gsC_cons, put, slot, dVar, dC, dOp2, dOp1, dTest, asB, dTruth, dNot, dAnd, dOr, dAndV, dOrV, dNotV, dIf, dChain, bOf, vw, vws, mem, mput, dTup, dLst, dLstM, dNil, dCons, vals, dSl, dPart, dNoPart, asI, pSl, pAdd, pSub, pMul, pNeg, pDiv, pMod, pLt, pLe, pGt, pGe, pInt, pIntC, pEq, pNe, pIx, pIsN, pIsNotN, pIsB, pIsNotB, pIn, pNotIn, isNone, dB, pLen, pTupleOf, pListOf, pItems, dBM, dMl, onL, pAppend, pExtend, pPopAt, dFz, asV, gSubL, dIs, isK, dRaise, dMkX, pTru, DV.is, DV.within, dIt, items, dR1, dR2, rangeD, dFor, dForT, dLc, dLcM, wipeD, dYes, dCall, refsOf, inn, back, wb, outn, List.map_cons, List.map_nil, List.length_cons, List.length_nil, List.cons_append, List.nil_append, List.append_nil, List.drop_nil, List.take_nil, List.drop_zero, true_and, and_true, if_true, ite_true, forall_const, Bool.not_true, Bool.not_false, Bool.false_eq_true, if_false, shp_int, shp_none, shp_bool, shp_nil, eqv_int, eqv_list_nil, atI_last, atI_0, atI_1, atI_2, atI_3, map_val_int, Int.reduceNeg, atI_map, pMax, pMin, pSum, pAll, pAny, pToInt, pAbs, exists_eq_left', exists_eq_left, Option.some.injEq, isEmpty_snoc, cutD_init, List.contains_nil, List.drop_succ_cons, List.take_succ_cons, sl, Nat.reduceAdd, Nat.reduceLeDiff, Nat.reduceLT, Int.reduceLT, Int.reduceLE, Int.reduceAdd, Int.reduceSub, Int.reduceMul, Int.reduceEq, eq_self, Nat.zero_add, decide_true, decide_false, List.replicate, List.map_map]
    exact loop_numbers_bytes (fun _ => trivial) _ ns [] .no hn (by simp; omega) fun x' => ⟨rfl, trivial, q⟩

end DL

namespace DL
open PySem L2
/-- so many numbers one behind the other -/
def readNs (data : List Int) : Nat → List Int → Nat → (List Int × Nat) ⊕ Nat
  | 0, acc, place => .inl (acc, place)
  | n + 1, acc, place => match readN data place with
    | .inr b => .inr b
    | .inl (v, p) => readNs data n (acc ++ [v]) p
theorem loop_read_numbers {C : Str → Addr} {D : DEn} (data : List Int) (hd : ∀ b ∈ data, 0 ≤ b ∧ b < 256) (hdl : data.length ≤ 1000000) (many : Nat) (hm : many ≤ 1000000) : ∀ (n : Nat) (acc : List Int) (place : Nat) (x4 : DV), acc.length + n = many → place ≤ data.length →
    (∀ f p x4, readNs data n acc place = .inl (f, p) → D.nx [.val (.tuple (intL data)), .val (.int p), .val (.int many), .ref 0, x4] [.lst (intL f)]) →
    (∀ b ρ' l, readNs data n acc place = .inr b → D.ex (.own (C "BadBytes") [("place", .int b)]) ρ' [l]) →
    whL (c_read_numbers_1 C) (b_read_numbers_1 C) D (n + 1) [.val (.tuple (intL data)), .val (.int place), .val (.int many), .ref 0, x4] [.lst (intL acc)]
  | 0, acc, place, x4, hn, hp, k, e => by
    unfold whL
    simp only [c_read_numbers_1, dSeq, dAsg, dRet, dRetN, dIfS, dDrop, dPar, dAug, dNext, dBreak, dCont, gN, gT, gs0_nil, gsC_cons, put, slot, dVar, dC, dOp2, dOp1, dTest, asB, dTruth, dNot, dAnd, dOr, dAndV, dOrV, dNotV, dIf, dChain, bOf, vw, vws, mem, mput, dTup, dLst, dLstM, dNil, dCons, vals, dSl, dPart, dNoPart, asI, pSl, pAdd, pSub, pMul, pNeg, pDiv, pMod, pLt, pLe, pGt, pGe, pInt, pIntC, pEq, pNe, pIx, pIsN, pIsNotN, pIsB, pIsNotB, pIn, pNotIn, isNone, dB, pLen, pTupleOf, pListOf, pItems, dBM, dMl, onL, pAppend, pExtend, pPopAt, dFz, asV, gSubL, dIs, isK, dRaise, dMkX, pTru, DV.is, DV.within, dIt, items, dR1, dR2, rangeD, dFor, dForT, dLc, dLcM, wipeD, dYes, dCall, refsOf, inn, back, wb, outn, List.map_cons, List.map_nil, List.length_cons, List.length_nil, List.cons_append, List.nil_append, List.append_nil, List.drop_nil, List.take_nil, List.drop_zero, true_and, and_true, if_true, ite_true, forall_const, Bool.not_true, Bool.not_false, Bool.false_eq_true, if_false, shp_int, shp_none, shp_bool, shp_nil, eqv_int, eqv_list_nil, atI_last, atI_0, atI_1, atI_2, atI_3, map_val_int, Int.reduceNeg, atI_map, pMax, pMin, pSum, pAll, pAny, pToInt, pAbs, exists_eq_left', exists_eq_left, Option.some.injEq, isEmpty_snoc, cutD_init, List.contains_nil, List.drop_succ_cons, List.take_succ_cons, sl, Nat.reduceAdd, Nat.reduceLeDiff, Nat.reduceLT, Int.reduceLT, Int.reduceLE, Int.reduceAdd, Int.reduceSub, Int.reduceMul, Int.reduceEq, eq_self, Nat.zero_add, decide_true, decide_false, List.length_map]
    intro _
    rw [if_neg (by simp; omega)]
    exact k _ _ _ rfl
  | n + 1, acc, place, x4, hn, hp, k, e => by
    unfold whL
    have ih := fun acc place x4 => loop_read_numbers (C := C) (D := D) data hd hdl many hm n acc place x4
    generalize whL (c_read_numbers_1 C) (b_read_numbers_1 C) D (n + 1) = K at ih ⊢
    simp only [c_read_numbers_1, dSeq, dAsg, dRet, dRetN, dIfS, dDrop, dPar, dAug, dNext, dBreak, dCont, gN, gT, gs0_nil, gsC_cons, put, slot, dVar, dC, dOp2, dOp1, dTest, asB, dTruth, dNot, dAnd, dOr, dAndV, dOrV, dNotV, dIf, dChain, bOf, vw, vws, mem, mput, dTup, dLst, dLstM, dNil, dCons, vals, dSl, dPart, dNoPart, asI, pSl, pAdd, pSub, pMul, pNeg, pDiv, pMod, pLt, pLe, pGt, pGe, pInt, pIntC, pEq, pNe, pIx, pIsN, pIsNotN, pIsB, pIsNotB, pIn, pNotIn, isNone, dB, pLen, pTupleOf, pListOf, pItems, dBM, dMl, onL, pAppend, pExtend, pPopAt, dFz, asV, gSubL, dIs, isK, dRaise, dMkX, pTru, DV.is, DV.within, dIt, items, dR1, dR2, rangeD, dFor, dForT, dLc, dLcM, wipeD, dYes, dCall, refsOf, inn, back, wb, outn, List.map_cons, List.map_nil, List.length_cons, List.length_nil, List.cons_append, List.nil_append, List.append_nil, List.drop_nil, List.take_nil, List.drop_zero, true_and, and_true, if_true, ite_true, forall_const, Bool.not_true, Bool.not_false, Bool.false_eq_true, if_false, shp_int, shp_none, shp_bool, shp_nil, eqv_int, eqv_list_nil, atI_last, atI_0, atI_1, atI_2, atI_3, map_val_int, Int.reduceNeg, atI_map, pMax, pMin, pSum, pAll, pAny, pToInt, pAbs, exists_eq_left', exists_eq_left, Option.some.injEq, isEmpty_snoc, cutD_init, List.contains_nil, List.drop_succ_cons, List.take_succ_cons, sl, Nat.reduceAdd, Nat.reduceLeDiff, Nat.reduceLT, Int.reduceLT, Int.reduceLE, Int.reduceAdd, Int.reduceSub, Int.reduceMul, Int.reduceEq, eq_self, Nat.zero_add, decide_true, decide_false, List.length_map]
    intro _
    rw [if_pos (by simp; omega)]
    simp only [b_read_numbers_1, dSeq, dAsg, dRet, dRetN, dIfS, dDrop, dPar, dAug, dNext, dBreak, dCont, gN, gT, gs0_nil, gsC_cons, put, slot, dVar, dC, dOp2, dOp1, dTest, asB, dTruth, dNot, dAnd, dOr, dAndV, dOrV, dNotV, dIf, dChain, bOf, vw, vws, mem, mput, dTup, dLst, dLstM, dNil, dCons, vals, dSl, dPart, dNoPart, asI, pSl, pAdd, pSub, pMul, pNeg, pDiv, pMod, pLt, pLe, pGt, pGe, pInt, pIntC, pEq, pNe, pIx, pIsN, pIsNotN, pIsB, pIsNotB, pIn, pNotIn, isNone, dB, pLen, pTupleOf, pListOf, pItems, dBM, dMl, onL, pAppend, pExtend, pPopAt, dFz, asV, gSubL, dIs, isK, dRaise, dMkX, pTru, DV.is, DV.within, dIt, items, dR1, dR2, rangeD, dFor, dForT, dLc, dLcM, wipeD, dYes, dCall, refsOf, inn, back, wb, outn, List.map_cons, List.map_nil, List.length_cons, List.length_nil, List.cons_append, List.nil_append, List.append_nil, List.drop_nil, List.take_nil, List.drop_zero, true_and, and_true, if_true, ite_true, forall_const, Bool.not_true, Bool.not_false, Bool.false_eq_true, if_false, shp_int, shp_none, shp_bool, shp_nil, eqv_int, eqv_list_nil, atI_last, atI_0, atI_1, atI_2, atI_3, map_val_int, Int.reduceNeg, atI_map, pMax, pMin, pSum, pAll, pAny, pToInt, pAbs, exists_eq_left', exists_eq_left, Option.some.injEq, isEmpty_snoc, cutD_init, List.contains_nil, List.drop_succ_cons, List.take_succ_cons, sl, Nat.reduceAdd, Nat.reduceLeDiff, Nat.reduceLT, Int.reduceLT, Int.reduceLE, Int.reduceAdd, Int.reduceSub, Int.reduceMul, Int.reduceEq, eq_self, Nat.zero_add, decide_true, decide_false]
    unfold readNs at k e
    refine spec_read_number data hd hdl place (by omega) (fun v p h => ?_) fun b h => ?_
    · obtain ⟨_, _, pl, _⟩ := readN_inl hd h
      rw [h] at k e
      simp only [dSeq, dAsg, dRet, dRetN, dIfS, dDrop, dPar, dAug, dNext, dBreak, dCont, gN, gT, gs0_nil, gsC_cons, put, slot, dVar, dC, dOp2, dOp1, dTest, asB, dTruth, dNot, dAnd, dOr, dAndV, dOrV, dNotV, dIf, dChain, bOf, vw, vws, mem, mput, dTup, dLst, dLstM, dNil, dCons, vals, dSl, dPart, dNoPart, asI, pSl, pAdd, pSub, pMul, pNeg, pDiv, pMod, pLt, pLe, pGt, pGe, pInt, pIntC, pEq, pNe, pIx, pIsN, pIsNotN, pIsB, pIsNotB, pIn, pNotIn, isNone, dB, pLen, pTupleOf, pListOf, pItems, dBM, dMl, onL, pAppend, pExtend, pPopAt, dFz, asV, gSubL, dIs, isK, dRaise, dMkX, pTru, DV.is, DV.within, dIt, items, dR1, dR2, rangeD, dFor, dForT, dLc, dLcM, wipeD, dYes, dCall, refsOf, inn, back, wb, outn, List.map_cons, List.map_nil, List.length_cons, List.length_nil, List.cons_append, List.nil_append, List.append_nil, List.drop_nil, List.take_nil, List.drop_zero, true_and, and_true, if_true, ite_true, forall_const, Bool.not_true, Bool.not_false, Bool.false_eq_true, if_false, shp_int, shp_none, shp_bool, shp_nil, eqv_int, eqv_list_nil, atI_last, atI_0, atI_1, atI_2, atI_3, map_val_int, Int.reduceNeg, atI_map, pMax, pMin, pSum, pAll, pAny, pToInt, pAbs, exists_eq_left', exists_eq_left, Option.some.injEq, isEmpty_snoc, cutD_init, List.contains_nil, List.drop_succ_cons, List.take_succ_cons, sl, Nat.reduceAdd, Nat.reduceLeDiff, Nat.reduceLT, Int.reduceLT, Int.reduceLE, Int.reduceAdd, Int.reduceSub, Int.reduceMul, Int.reduceEq, eq_self, Nat.zero_add, decide_true, decide_false, List.length_map]
      refine ⟨by omega, ?_⟩
      have := ih (acc ++ [v]) p (.val (.int v)) (by rw [List.length_append, List.length_singleton]; omega) pl k e
      simp only [intL, List.map_append, List.map_cons, List.map_nil] at this
      exact this
    · rw [h] at e
      exact e _ _ _ rfl
theorem spec_read_numbers {C : Str → Addr} (data : List Int) (hd : ∀ b ∈ data, 0 ≤ b ∧ b < 256) (hdl : data.length ≤ 1000000) (many place : Nat) (hm : many ≤ 1000000) (hp : place ≤ data.length) {Q : DQ} {E : DX}
    (q : ∀ f p, readNs data many [] place = .inl (f, p) → Q (.val (.tuple [.list (intL f), .int (p : Nat)])) []) (e : ∀ b, readNs data many [] place = .inr b → E (.own (C "BadBytes") [("place", .int b)]) []) :
    W_read_numbers C [.val (.tuple (intL data)), .val (.int place), .val (.int many)] [] Q E := by
  refine ⟨rfl, ?_⟩
  simp only [B_read_numbers, dSeq, dAsg, dRet, dRetN, dIfS, dDrop, dPar, dAug, dNext, dBreak, dCont, gN, gT, gs0_nil, gsC_cons, put, slot, dVar, dC, dOp2, dOp1, dTest, asB, dTruth, dNot, dAnd, dOr, dAndV, dOrV, dNotV, dIf, dChain, bOf, vw, vws, mem, mput, dTup, dLst, dLstM, dNil, dCons, vals, dSl, dPart, dNoPart, asI, pSl, pAdd, pSub, pMul, pNeg, pDiv, pMod, pLt, pLe, pGt, pGe, pInt, pIntC, pEq, pNe, pIx, pIsN, pIsNotN, pIsB, pIsNotB, pIn, pNotIn, isNone, dB, pLen, pTupleOf, pListOf, pItems, dBM, dMl, onL, pAppend, pExtend, pPopAt, dFz, asV, gSubL, dIs, isK, dRaise, dMkX, pTru, DV.is, DV.within, dIt, items, dR1, dR2, rangeD, dFor, dForT, dLc, dLcM, wipeD, dYes, dCall, refsOf, inn, back, wb, outn, List.map_cons, List.map_nil, List.length_cons, List.length_nil, List.cons_append, List.nil_append, List.append_nil, List.drop_nil, List.take_nil, List.drop_zero, true_and, and_true, if_true, ite_true, forall_const, Bool.not_true, Bool.not_false, Bool.false_eq_true, if_false, shp_int, shp_none, shp_bool, shp_nil, eqv_int, eqv_list_nil, atI_last, atI_0, atI_1, atI_2, atI_3, map_val_int, Int.reduceNeg, atI_map, pMax, pMin, pSum, pAll, pAny, pToInt, pAbs, exists_eq_left', exists_eq_left, Option.some.injEq, isEmpty_snoc, cutD_init, List.contains_nil, List.drop_succ_cons, List.take_succ_cons, sl, Nat.reduceAdd, Nat.reduceLeDiff, Nat.reduceLT, Int.reduceLT, Int.reduceLE, Int.reduceAdd, Int.reduceSub, Int.reduceMul, Int.reduceEq, eq_self, Nat.zero_add, decide_true, decide_false, List.replicate]
  refine ⟨many + 1, loop_read_numbers data hd hdl many hm many [] place .no (by simp) hp (fun f p x4 h => ?_) fun b ρ' l h => e b h⟩
  simp only [dSeq, dAsg, dRet, dRetN, dIfS, dDrop, dPar, dAug, dNext, dBreak, dCont, gN, gT, gs0_nil, gsC_cons, put, slot, dVar, dC, dOp2, dOp1, dTest, asB, dTruth, dNot, dAnd, dOr, dAndV, dOrV, dNotV, dIf, dChain, bOf, vw, vws, mem, mput, dTup, dLst, dLstM, dNil, dCons, vals, dSl, dPart, dNoPart, asI, pSl, pAdd, pSub, pMul, pNeg, pDiv, pMod, pLt, pLe, pGt, pGe, pInt, pIntC, pEq, pNe, pIx, pIsN, pIsNotN, pIsB, pIsNotB, pIn, pNotIn, isNone, dB, pLen, pTupleOf, pListOf, pItems, dBM, dMl, onL, pAppend, pExtend, pPopAt, dFz, asV, gSubL, dIs, isK, dRaise, dMkX, pTru, DV.is, DV.within, dIt, items, dR1, dR2, rangeD, dFor, dForT, dLc, dLcM, wipeD, dYes, dCall, refsOf, inn, back, wb, outn, List.map_cons, List.map_nil, List.length_cons, List.length_nil, List.cons_append, List.nil_append, List.append_nil, List.drop_nil, List.take_nil, List.drop_zero, true_and, and_true, if_true, ite_true, forall_const, Bool.not_true, Bool.not_false, Bool.false_eq_true, if_false, shp_int, shp_none, shp_bool, shp_nil, eqv_int, eqv_list_nil, atI_last, atI_0, atI_1, atI_2, atI_3, map_val_int, Int.reduceNeg, atI_map, pMax, pMin, pSum, pAll, pAny, pToInt, pAbs, exists_eq_left', exists_eq_left, Option.some.injEq, isEmpty_snoc, cutD_init, List.contains_nil, List.drop_succ_cons, List.take_succ_cons, sl, Nat.reduceAdd, Nat.reduceLeDiff, Nat.reduceLT, Int.reduceLT, Int.reduceLE, Int.reduceAdd, Int.reduceSub, Int.reduceMul, Int.reduceEq, eq_self, Nat.zero_add, decide_true, decide_false]
  exact q f p h
theorem readNs_trip : ∀ (ns : List Nat) (head tail acc : List Int), (∀ n ∈ ns, n < 256 ^ 64) → readNs (head ++ (numsB ns ++ tail)) ns.length acc head.length = .inl (acc ++ ns.map (fun n : Nat => (n : Int)), head.length + (numsB ns).length)
  | [], head, tail, acc, _ => by simp [readNs, numsB]
  | n :: ns, head, tail, acc, h => by
    show readNs _ (ns.length + 1) acc head.length = _
    unfold readNs
    have e : head ++ (numsB (n :: ns) ++ tail) = head ++ (numB n ++ (numsB ns ++ tail)) := by simp [numsB]
    have e2 : head ++ (numsB (n :: ns) ++ tail) = (head ++ numB n) ++ (numsB ns ++ tail) := by simp [numsB]
    rw [show readN (head ++ (numsB (n :: ns) ++ tail)) head.length = .inl ((n : Int), head.length + (numB n).length) by rw [e]; exact readN_trip head _ n (h n List.mem_cons_self)]
    simp only
    rw [e2, ← List.length_append, readNs_trip ns (head ++ numB n) tail _ (fun m hm => h m (List.mem_cons_of_mem _ hm))]
    simp [numsB, Nat.add_assoc]

end DL

namespace DL
open PySem L2
def foldD (n : Int) : Int := if n ≥ 0 then 2 * n else -2 * n - 1
def unfoldD (n : Int) : Int := if n % 2 = 0 then n / 2 else -(n / 2) - 1
theorem spec_folded (n : Int) {Q : DQ} {E : DX} (q : Q (.val (.int (foldD n))) []) : W_folded [.val (.int n)] [] Q E := by
  refine ⟨rfl, ?_⟩
  unfold foldD at q
  simp only [B_folded, dSeq, dAsg, dRet, dRetN, dIfS, dDrop, dPar, dAug, dNext, dBreak, dCont, gN, gT, gs0_nil, gsC_cons, put, slot, dVar, dC, dOp2, dOp1, dTest, asB, dTruth, dNot, dAnd, dOr, dAndV, dOrV, dNotV, dIf, dChain, bOf, vw, vws, mem, mput, dTup, dLst, dLstM, dNil, dCons, vals, dSl, dPart, dNoPart, asI, pSl, pAdd, pSub, pMul, pNeg, pDiv, pMod, pLt, pLe, pGt, pGe, pInt, pIntC, pEq, pNe, pIx, pIsN, pIsNotN, pIsB, pIsNotB, pIn, pNotIn, isNone, dB, pLen, pTupleOf, pListOf, pItems, dBM, dMl, onL, pAppend, pExtend, pPopAt, dFz, asV, gSubL, dIs, isK, dRaise, dMkX, pTru, DV.is, DV.within, dIt, items, dR1, dR2, rangeD, dFor, dForT, dLc, dLcM, wipeD, dYes, dCall, refsOf, inn, back, wb, outn, List.map_cons, List.map_nil, List.length_cons, List.length_nil, List.cons_append, List.nil_append, List.append_nil, List.drop_nil, List.take_nil, List.drop_zero, true_and, and_true, if_true, ite_true, forall_const, Bool.not_true, Bool.not_false, Bool.false_eq_true, if_false, shp_int, shp_none, shp_bool, shp_nil, eqv_int, eqv_list_nil, atI_last, atI_0, atI_1, atI_2, atI_3, map_val_int, Int.reduceNeg, atI_map, pMax, pMin, pSum, pAll, pAny, pToInt, pAbs, exists_eq_left', exists_eq_left, Option.some.injEq, isEmpty_snoc, cutD_init, List.contains_nil, List.drop_succ_cons, List.take_succ_cons, sl, Nat.reduceAdd, Nat.reduceLeDiff, Nat.reduceLT, Int.reduceLT, Int.reduceLE, Int.reduceAdd, Int.reduceSub, Int.reduceMul, Int.reduceEq, eq_self, Nat.zero_add, decide_true, decide_false, List.replicate]
  by_cases h : n ≥ 0
  · rw [if_pos h] at q
    rw [if_pos (decide_eq_true h)]
    exact ⟨cmul_l (by decide) (by decide), q⟩
  · rw [if_neg h] at q
    rw [if_neg (by simpa using h)]
    exact ⟨cmul_l (by decide) (by decide), q⟩
theorem spec_unfolded (n : Int) {Q : DQ} {E : DX} (q : Q (.val (.int (unfoldD n))) []) : W_unfolded [.val (.int n)] [] Q E := by
  refine ⟨rfl, ?_⟩
  unfold unfoldD at q
  simp only [B_unfolded, dSeq, dAsg, dRet, dRetN, dIfS, dDrop, dPar, dAug, dNext, dBreak, dCont, gN, gT, gs0_nil, gsC_cons, put, slot, dVar, dC, dOp2, dOp1, dTest, asB, dTruth, dNot, dAnd, dOr, dAndV, dOrV, dNotV, dIf, dChain, bOf, vw, vws, mem, mput, dTup, dLst, dLstM, dNil, dCons, vals, dSl, dPart, dNoPart, asI, pSl, pAdd, pSub, pMul, pNeg, pDiv, pMod, pLt, pLe, pGt, pGe, pInt, pIntC, pEq, pNe, pIx, pIsN, pIsNotN, pIsB, pIsNotB, pIn, pNotIn, isNone, dB, pLen, pTupleOf, pListOf, pItems, dBM, dMl, onL, pAppend, pExtend, pPopAt, dFz, asV, gSubL, dIs, isK, dRaise, dMkX, pTru, DV.is, DV.within, dIt, items, dR1, dR2, rangeD, dFor, dForT, dLc, dLcM, wipeD, dYes, dCall, refsOf, inn, back, wb, outn, List.map_cons, List.map_nil, List.length_cons, List.length_nil, List.cons_append, List.nil_append, List.append_nil, List.drop_nil, List.take_nil, List.drop_zero, true_and, and_true, if_true, ite_true, forall_const, Bool.not_true, Bool.not_false, Bool.false_eq_true, if_false, shp_int, shp_none, shp_bool, shp_nil, eqv_int, eqv_list_nil, atI_last, atI_0, atI_1, atI_2, atI_3, map_val_int, Int.reduceNeg, atI_map, pMax, pMin, pSum, pAll, pAny, pToInt, pAbs, exists_eq_left', exists_eq_left, Option.some.injEq, isEmpty_snoc, cutD_init, List.contains_nil, List.drop_succ_cons, List.take_succ_cons, sl, Nat.reduceAdd, Nat.reduceLeDiff, Nat.reduceLT, Int.reduceLT, Int.reduceLE, Int.reduceAdd, Int.reduceSub, Int.reduceMul, Int.reduceEq, eq_self, Nat.zero_add, decide_true, decide_false, List.replicate]
  by_cases h : n % 2 = 0
  · rw [if_pos h] at q
    rw [if_pos (decide_eq_true h)]
    exact ⟨cdiv_of (by decide) (by decide), q⟩
  · rw [if_neg h] at q
    rw [if_neg (by simpa using h)]
    exact ⟨cdiv_of (by decide) (by decide), q⟩
theorem unfold_fold (n : Int) : unfoldD (foldD n) = n := by
  unfold unfoldD foldD
  by_cases h : n ≥ 0
  · rw [if_pos h, if_pos (by omega)]; omega
  · rw [if_neg h, if_neg (by omega)]; omega

end DL

namespace DL
open PySem L2
theorem loop__law_check {D : DEn} {C : Mem → Prop} (hC : ∀ M, C M) (a : DV) : ∀ (data : List Int) (f : Int) (x : DV), (∀ x', D.nx [a, .val (.int (data.foldl chkF f)), x'] []) → forL (gN 2) b__law_check_1 D C (data.map vI) [a, .val (.int f), x] []
  | [], f, x, k => ⟨hC _, k x⟩
  | b :: bs, f, x, k => by
    refine ⟨hC _, ?_⟩
    have ih := loop__law_check (D := D) hC a bs (chkF f b) (vI b) k
    show b__law_check_1 { D with nx := forL (gN 2) b__law_check_1 D C (bs.map vI), ct := forL (gN 2) b__law_check_1 D C (bs.map vI), bk := D.nx } [a, .val (.int f), vI b] []
    generalize forL (gN 2) b__law_check_1 D C (bs.map vI) = K at ih ⊢
    simp only [b__law_check_1, dSeq, dAsg, dRet, dRetN, dIfS, dDrop, dPar, dAug, dNext, dBreak, dCont, gN, gT, gs0_nil, gsC_cons, put, slot, dVar, dC, dOp2, dOp1, dTest, asB, dTruth, dNot, dAnd, dOr, dAndV, dOrV, dNotV, dIf, dChain, bOf, vw, vws, mem, mput, dTup, dLst, dLstM, dNil, dCons, vals, dSl, dPart, dNoPart, asI, pSl, pAdd, pSub, pMul, pNeg, pDiv, pMod, pLt, pLe, pGt, pGe, pInt, pIntC, pEq, pNe, pIx, pIsN, pIsNotN, pIsB, pIsNotB, pIn, pNotIn, isNone, dB, pLen, pTupleOf, pListOf, pItems, dBM, dMl, onL, pAppend, pExtend, pPopAt, dFz, asV, gSubL, dIs, isK, dRaise, dMkX, pTru, DV.is, DV.within, dIt, items, dR1, dR2, rangeD, dFor, dForT, dLc, dLcM, wipeD, dYes, dCall, refsOf, inn, back, wb, outn, List.map_cons, List.map_nil, List.length_cons, List.length_nil, List.cons_append, List.nil_append, List.append_nil, List.drop_nil, List.take_nil, List.drop_zero, true_and, and_true, if_true, ite_true, forall_const, Bool.not_true, Bool.not_false, Bool.false_eq_true, if_false, shp_int, shp_none, shp_bool, shp_nil, eqv_int, eqv_list_nil, atI_last, atI_0, atI_1, atI_2, atI_3, map_val_int, Int.reduceNeg, atI_map, pMax, pMin, pSum, pAll, pAny, pToInt, pAbs, exists_eq_left', exists_eq_left, Option.some.injEq, isEmpty_snoc, cutD_init, List.contains_nil, List.drop_succ_cons, List.take_succ_cons, sl, Nat.reduceAdd, Nat.reduceLeDiff, Nat.reduceLT, Int.reduceLT, Int.reduceLE, Int.reduceAdd, Int.reduceSub, Int.reduceMul, Int.reduceEq, eq_self, Nat.zero_add, decide_true, decide_false]
    refine ⟨cmul_l (by decide) (by decide), cdiv_of (by decide) (by decide), cmul_r (by decide) (by decide), ?_⟩
    have e : 259 * f + b + 1 - (259 * f + b + 1) / 16777213 * 16777213 = chkF f b := by unfold chkF; omega
    rw [e]
    exact ih
theorem spec__law_check (data : List Int) (x : PyData) (hx : x = .list (intL data) ∨ x = .tuple (intL data)) {Q : DQ} {E : DX} (q : Q (.val (.int (chk data))) []) : W__law_check [.val x] [] Q E := by
  refine ⟨rfl, ?_⟩
  rcases hx with rfl | rfl
  all_goals
    simp only [B__law_check, dSeq, dAsg, dRet, dRetN, dIfS, dDrop, dPar, dAug, dNext, dBreak, dCont, gN, gT, gs0_nil, gsC_cons, put, slot, dVar, dC, dOp2, dOp1, dTest, asB, dTruth, dNot, dAnd, dOr, dAndV, dOrV, dNotV, dIf, dChain, bOf, vw, vws, mem, mput, dTup, dLst, dLstM, dNil, dCons, vals, dSl, dPart, dNoPart, asI, pSl, pAdd, pSub, pMul, pNeg, pDiv, pMod, pLt, pLe, pGt, pGe, pInt, pIntC, pEq, pNe, pIx, pIsN, pIsNotN, pIsB, pIsNotB, pIn, pNotIn, isNone, dB, pLen, pTupleOf, pListOf, pItems, dBM, dMl, onL, pAppend, pExtend, pPopAt, dFz, asV, gSubL, dIs, isK, dRaise, dMkX, pTru, DV.is, DV.within, dIt, items, dR1, dR2, rangeD, dFor, dForT, dLc, dLcM, wipeD, dYes, dCall, refsOf, inn, back, wb, outn, List.map_cons, List.map_nil, List.length_cons, List.length_nil, List.cons_append, List.nil_append, List.append_nil, List.drop_nil, List.take_nil, List.drop_zero, true_and, and_true, if_true, ite_true, forall_const, Bool.not_true, Bool.not_false, Bool.false_eq_true, if_false, shp_int, shp_none, shp_bool, shp_nil, eqv_int, eqv_list_nil, atI_last, atI_0, atI_1, atI_2, atI_3, map_val_int, Int.reduceNeg, atI_map, pMax, pMin, pSum, pAll, pAny, pToInt, pAbs, exists_eq_left', exists_eq_left, Option.some.injEq, isEmpty_snoc, cutD_init, List.contains_nil, List.drop_succ_cons, List.take_succ_cons, sl, Nat.reduceAdd, Nat.reduceLeDiff, Nat.reduceLT, Int.reduceLT, Int.reduceLE, Int.reduceAdd, Int.reduceSub, Int.reduceMul, Int.reduceEq, eq_self, Nat.zero_add, decide_true, decide_false, List.replicate]
    exact loop__law_check (fun _ => trivial) _ data 1 .no fun x' => ⟨rfl, trivial, q⟩
theorem spec__law_seal (data : List Int) (x : PyData) (hx : x = .list (intL data) ∨ x = .tuple (intL data)) (hl : data.length ≤ 1000000) {Q : DQ} {E : DX} (q : Q (.val (.tuple (intL (sealD data)))) []) : W__law_seal [.val x] [] Q E := by
  have hp : data.length < 256 ^ 64 := Nat.lt_of_le_of_lt hl (by decide)
  have hn := numB_len data.length hp
  have e : intL (sealD data) = intL (numB data.length) ++ intL data ++ [.int (chk data / 65536), .int (chk data / 256 % 256), .int (chk data % 256)] := by
    simp [sealD, chk3, intL]
  rw [e] at q
  have e1 : chk data / 256 - chk data / 65536 * 256 = chk data / 256 % 256 := by omega
  have e2 : chk data - chk data / 256 * 256 = chk data % 256 := by omega
  rw [← e1, ← e2] at q
  refine ⟨rfl, ?_⟩
  rcases hx with rfl | rfl
  all_goals
    simp only [B__law_seal, dSeq, dAsg, dRet, dRetN, dIfS, dDrop, dPar, dAug, dNext, dBreak, dCont, gN, gT, gs0_nil, gsC_cons, put, slot, dVar, dC, dOp2, dOp1, dTest, asB, dTruth, dNot, dAnd, dOr, dAndV, dOrV, dNotV, dIf, dChain, bOf, vw, vws, mem, mput, dTup, dLst, dLstM, dNil, dCons, vals, dSl, dPart, dNoPart, asI, pSl, pAdd, pSub, pMul, pNeg, pDiv, pMod, pLt, pLe, pGt, pGe, pInt, pIntC, pEq, pNe, pIx, pIsN, pIsNotN, pIsB, pIsNotB, pIn, pNotIn, isNone, dB, pLen, pTupleOf, pListOf, pItems, dBM, dMl, onL, pAppend, pExtend, pPopAt, dFz, asV, gSubL, dIs, isK, dRaise, dMkX, pTru, DV.is, DV.within, dIt, items, dR1, dR2, rangeD, dFor, dForT, dLc, dLcM, wipeD, dYes, dCall, refsOf, inn, back, wb, outn, List.map_cons, List.map_nil, List.length_cons, List.length_nil, List.cons_append, List.nil_append, List.append_nil, List.drop_nil, List.take_nil, List.drop_zero, true_and, and_true, if_true, ite_true, forall_const, Bool.not_true, Bool.not_false, Bool.false_eq_true, if_false, shp_int, shp_none, shp_bool, shp_nil, eqv_int, eqv_list_nil, atI_last, atI_0, atI_1, atI_2, atI_3, map_val_int, Int.reduceNeg, atI_map, pMax, pMin, pSum, pAll, pAny, pToInt, pAbs, exists_eq_left', exists_eq_left, Option.some.injEq, isEmpty_snoc, cutD_init, List.contains_nil, List.drop_succ_cons, List.take_succ_cons, sl, Nat.reduceAdd, Nat.reduceLeDiff, Nat.reduceLT, Int.reduceLT, Int.reduceLE, Int.reduceAdd, Int.reduceSub, Int.reduceMul, Int.reduceEq, eq_self, Nat.zero_add, decide_true, decide_false, List.replicate]
    refine spec__law_check data _ (by first | exact .inl rfl | exact .inr rfl) ?_
    simp only [dSeq, dAsg, dRet, dRetN, dIfS, dDrop, dPar, dAug, dNext, dBreak, dCont, gN, gT, gs0_nil, gsC_cons, put, slot, dVar, dC, dOp2, dOp1, dTest, asB, dTruth, dNot, dAnd, dOr, dAndV, dOrV, dNotV, dIf, dChain, bOf, vw, vws, mem, mput, dTup, dLst, dLstM, dNil, dCons, vals, dSl, dPart, dNoPart, asI, pSl, pAdd, pSub, pMul, pNeg, pDiv, pMod, pLt, pLe, pGt, pGe, pInt, pIntC, pEq, pNe, pIx, pIsN, pIsNotN, pIsB, pIsNotB, pIn, pNotIn, isNone, dB, pLen, pTupleOf, pListOf, pItems, dBM, dMl, onL, pAppend, pExtend, pPopAt, dFz, asV, gSubL, dIs, isK, dRaise, dMkX, pTru, DV.is, DV.within, dIt, items, dR1, dR2, rangeD, dFor, dForT, dLc, dLcM, wipeD, dYes, dCall, refsOf, inn, back, wb, outn, List.map_cons, List.map_nil, List.length_cons, List.length_nil, List.cons_append, List.nil_append, List.append_nil, List.drop_nil, List.take_nil, List.drop_zero, true_and, and_true, if_true, ite_true, forall_const, Bool.not_true, Bool.not_false, Bool.false_eq_true, if_false, shp_int, shp_none, shp_bool, shp_nil, eqv_int, eqv_list_nil, atI_last, atI_0, atI_1, atI_2, atI_3, map_val_int, Int.reduceNeg, atI_map, pMax, pMin, pSum, pAll, pAny, pToInt, pAbs, exists_eq_left', exists_eq_left, Option.some.injEq, isEmpty_snoc, cutD_init, List.contains_nil, List.drop_succ_cons, List.take_succ_cons, sl, Nat.reduceAdd, Nat.reduceLeDiff, Nat.reduceLT, Int.reduceLT, Int.reduceLE, Int.reduceAdd, Int.reduceSub, Int.reduceMul, Int.reduceEq, eq_self, Nat.zero_add, decide_true, decide_false, List.length_map]
    intro _
    refine spec__law_number data.length hp ?_
    simp only [dSeq, dAsg, dRet, dRetN, dIfS, dDrop, dPar, dAug, dNext, dBreak, dCont, gN, gT, gs0_nil, gsC_cons, put, slot, dVar, dC, dOp2, dOp1, dTest, asB, dTruth, dNot, dAnd, dOr, dAndV, dOrV, dNotV, dIf, dChain, bOf, vw, vws, mem, mput, dTup, dLst, dLstM, dNil, dCons, vals, dSl, dPart, dNoPart, asI, pSl, pAdd, pSub, pMul, pNeg, pDiv, pMod, pLt, pLe, pGt, pGe, pInt, pIntC, pEq, pNe, pIx, pIsN, pIsNotN, pIsB, pIsNotB, pIn, pNotIn, isNone, dB, pLen, pTupleOf, pListOf, pItems, dBM, dMl, onL, pAppend, pExtend, pPopAt, dFz, asV, gSubL, dIs, isK, dRaise, dMkX, pTru, DV.is, DV.within, dIt, items, dR1, dR2, rangeD, dFor, dForT, dLc, dLcM, wipeD, dYes, dCall, refsOf, inn, back, wb, outn, List.map_cons, List.map_nil, List.length_cons, List.length_nil, List.cons_append, List.nil_append, List.append_nil, List.drop_nil, List.take_nil, List.drop_zero, true_and, and_true, if_true, ite_true, forall_const, Bool.not_true, Bool.not_false, Bool.false_eq_true, if_false, shp_int, shp_none, shp_bool, shp_nil, eqv_int, eqv_list_nil, atI_last, atI_0, atI_1, atI_2, atI_3, map_val_int, Int.reduceNeg, atI_map, pMax, pMin, pSum, pAll, pAny, pToInt, pAbs, exists_eq_left', exists_eq_left, Option.some.injEq, isEmpty_snoc, cutD_init, List.contains_nil, List.drop_succ_cons, List.take_succ_cons, sl, Nat.reduceAdd, Nat.reduceLeDiff, Nat.reduceLT, Int.reduceLT, Int.reduceLE, Int.reduceAdd, Int.reduceSub, Int.reduceMul, Int.reduceEq, eq_self, Nat.zero_add, decide_true, decide_false, List.length_map, List.length_append]
    exact ⟨by omega, cdiv_of (by decide) (by decide), cdiv_of (by decide) (by decide), cdiv_of (by decide) (by decide), cmul_r (by decide) (by decide), cdiv_of (by decide) (by decide), cmul_r (by decide) (by decide), by omega, q⟩

end DL

namespace DL
open PySem L2
def optN : Option Nat → PyData
  | none => .none
  | some b => .int (b : Nat)
theorem spec__law_place (data : List Int) (hd : ∀ b ∈ data, 0 ≤ b ∧ b < 256) (hdl : data.length ≤ 1000000) (place : Nat) {Q : DQ} {E : DX} (q : Q (.val (optN (lawP data place))) []) : W__law_place [.val (.tuple (intL data)), .val (.int place)] [] Q E := by
  refine ⟨rfl, ?_⟩
  simp only [B__law_place, dSeq, dAsg, dRet, dRetN, dIfS, dDrop, dPar, dAug, dNext, dBreak, dCont, gN, gT, gs0_nil, gsC_cons, put, slot, dVar, dC, dOp2, dOp1, dTest, asB, dTruth, dNot, dAnd, dOr, dAndV, dOrV, dNotV, dIf, dChain, bOf, vw, vws, mem, mput, dTup, dLst, dLstM, dNil, dCons, vals, dSl, dPart, dNoPart, asI, pSl, pAdd, pSub, pMul, pNeg, pDiv, pMod, pLt, pLe, pGt, pGe, pInt, pIntC, pEq, pNe, pIx, pIsN, pIsNotN, pIsB, pIsNotB, pIn, pNotIn, isNone, dB, pLen, pTupleOf, pListOf, pItems, dBM, dMl, onL, pAppend, pExtend, pPopAt, dFz, asV, gSubL, dIs, isK, dRaise, dMkX, pTru, DV.is, DV.within, dIt, items, dR1, dR2, rangeD, dFor, dForT, dLc, dLcM, wipeD, dYes, dCall, refsOf, inn, back, wb, outn, List.map_cons, List.map_nil, List.length_cons, List.length_nil, List.cons_append, List.nil_append, List.append_nil, List.drop_nil, List.take_nil, List.drop_zero, true_and, and_true, if_true, ite_true, forall_const, Bool.not_true, Bool.not_false, Bool.false_eq_true, if_false, shp_int, shp_none, shp_bool, shp_nil, eqv_int, eqv_list_nil, atI_last, atI_0, atI_1, atI_2, atI_3, map_val_int, Int.reduceNeg, atI_map, pMax, pMin, pSum, pAll, pAny, pToInt, pAbs, exists_eq_left', exists_eq_left, Option.some.injEq, isEmpty_snoc, cutD_init, List.contains_nil, List.drop_succ_cons, List.take_succ_cons, sl, Nat.reduceAdd, Nat.reduceLeDiff, Nat.reduceLT, Int.reduceLT, Int.reduceLE, Int.reduceAdd, Int.reduceSub, Int.reduceMul, Int.reduceEq, eq_self, Nat.zero_add, decide_true, decide_false, List.replicate, List.length_map]
  intro _
  unfold lawP at q
  by_cases h : place < data.length
  · rw [if_neg (by simp; omega)]
    obtain ⟨b, hb⟩ : ∃ b, data[place]? = some b := ⟨_, List.getElem?_eq_getElem h⟩
    obtain ⟨b0, b1⟩ := hd b (List.mem_of_getElem? hb)
    simp only [hb] at q
    have ev : atI data (place : Int) = some b := by rw [atI_nat _ _ h]; exact hb
    simp only [ev, Option.map_some, dSeq, dAsg, dRet, dRetN, dIfS, dDrop, dPar, dAug, dNext, dBreak, dCont, gN, gT, gs0_nil, gsC_cons, put, slot, dVar, dC, dOp2, dOp1, dTest, asB, dTruth, dNot, dAnd, dOr, dAndV, dOrV, dNotV, dIf, dChain, bOf, vw, vws, mem, mput, dTup, dLst, dLstM, dNil, dCons, vals, dSl, dPart, dNoPart, asI, pSl, pAdd, pSub, pMul, pNeg, pDiv, pMod, pLt, pLe, pGt, pGe, pInt, pIntC, pEq, pNe, pIx, pIsN, pIsNotN, pIsB, pIsNotB, pIn, pNotIn, isNone, dB, pLen, pTupleOf, pListOf, pItems, dBM, dMl, onL, pAppend, pExtend, pPopAt, dFz, asV, gSubL, dIs, isK, dRaise, dMkX, pTru, DV.is, DV.within, dIt, items, dR1, dR2, rangeD, dFor, dForT, dLc, dLcM, wipeD, dYes, dCall, refsOf, inn, back, wb, outn, List.map_cons, List.map_nil, List.length_cons, List.length_nil, List.cons_append, List.nil_append, List.append_nil, List.drop_nil, List.take_nil, List.drop_zero, true_and, and_true, if_true, ite_true, forall_const, Bool.not_true, Bool.not_false, Bool.false_eq_true, if_false, shp_int, shp_none, shp_bool, shp_nil, eqv_int, eqv_list_nil, atI_last, atI_0, atI_1, atI_2, atI_3, map_val_int, Int.reduceNeg, atI_map, pMax, pMin, pSum, pAll, pAny, pToInt, pAbs, exists_eq_left', exists_eq_left, Option.some.injEq, isEmpty_snoc, cutD_init, List.contains_nil, List.drop_succ_cons, List.take_succ_cons, sl, Nat.reduceAdd, Nat.reduceLeDiff, Nat.reduceLT, Int.reduceLT, Int.reduceLE, Int.reduceAdd, Int.reduceSub, Int.reduceMul, Int.reduceEq, eq_self, Nat.zero_add, decide_true, decide_false]
    by_cases h1 : b < 192
    · rw [if_pos h1] at q
      rw [if_pos (decide_eq_true h1)]
      exact q
    · rw [if_neg h1] at q
      rw [if_neg (by simpa using h1)]
      intro _
      have tl : ¬ (∃ c, data[place + 1]? = some c ∧ c < (if b = 192 then 192 else 1)) → (data.length ≤ 16777216 → if decide ((data.length : Int) < place + 1 + (b - 191)) = true then (data.length ≤ 16777216 → Q (vI data.length) []) else Q (.val .none) []) := fun hn _ => by
        rw [if_neg hn] at q
        by_cases h3 : place + 1 + (b - 191).toNat > data.length
        · rw [if_pos h3] at q
          rw [if_pos (by simp; omega)]
          exact fun _ => q
        · rw [if_neg h3] at q
          rw [if_neg (by simp; omega)]
          exact q
      by_cases h2 : place + 1 < data.length
      · rw [if_pos (by simp; omega)]
        obtain ⟨c, hc⟩ : ∃ c, data[place + 1]? = some c := ⟨_, List.getElem?_eq_getElem h2⟩
        have ec : atI data ((place : Int) + 1) = some c := by rw [show (place : Int) + 1 = ((place + 1 : Nat) : Int) by omega, atI_nat _ _ h2]; exact hc
        simp only [ec, Option.map_some, dSeq, dAsg, dRet, dRetN, dIfS, dDrop, dPar, dAug, dNext, dBreak, dCont, gN, gT, gs0_nil, gsC_cons, put, slot, dVar, dC, dOp2, dOp1, dTest, asB, dTruth, dNot, dAnd, dOr, dAndV, dOrV, dNotV, dIf, dChain, bOf, vw, vws, mem, mput, dTup, dLst, dLstM, dNil, dCons, vals, dSl, dPart, dNoPart, asI, pSl, pAdd, pSub, pMul, pNeg, pDiv, pMod, pLt, pLe, pGt, pGe, pInt, pIntC, pEq, pNe, pIx, pIsN, pIsNotN, pIsB, pIsNotB, pIn, pNotIn, isNone, dB, pLen, pTupleOf, pListOf, pItems, dBM, dMl, onL, pAppend, pExtend, pPopAt, dFz, asV, gSubL, dIs, isK, dRaise, dMkX, pTru, DV.is, DV.within, dIt, items, dR1, dR2, rangeD, dFor, dForT, dLc, dLcM, wipeD, dYes, dCall, refsOf, inn, back, wb, outn, List.map_cons, List.map_nil, List.length_cons, List.length_nil, List.cons_append, List.nil_append, List.append_nil, List.drop_nil, List.take_nil, List.drop_zero, true_and, and_true, if_true, ite_true, forall_const, Bool.not_true, Bool.not_false, Bool.false_eq_true, if_false, shp_int, shp_none, shp_bool, shp_nil, eqv_int, eqv_list_nil, atI_last, atI_0, atI_1, atI_2, atI_3, map_val_int, Int.reduceNeg, atI_map, pMax, pMin, pSum, pAll, pAny, pToInt, pAbs, exists_eq_left', exists_eq_left, Option.some.injEq, isEmpty_snoc, cutD_init, List.contains_nil, List.drop_succ_cons, List.take_succ_cons, sl, Nat.reduceAdd, Nat.reduceLeDiff, Nat.reduceLT, Int.reduceLT, Int.reduceLE, Int.reduceAdd, Int.reduceSub, Int.reduceMul, Int.reduceEq, eq_self, Nat.zero_add, decide_true, decide_false]
        have ex : (∃ c', data[place + 1]? = some c' ∧ c' < (if b = 192 then 192 else 1)) ↔ c < (if b = 192 then 192 else 1) := by
          rw [hc]
          exact ⟨fun ⟨c', z, w⟩ => by cases z; exact w, fun w => ⟨c, rfl, w⟩⟩
        by_cases h4 : b = 192
        · rw [if_pos (by simp; omega)]
          rw [if_pos h4] at ex
          by_cases h5 : c < 192
          · rw [if_pos (decide_eq_true h5)]
            rw [if_pos (by rw [if_pos h4]; exact (show (∃ c', data[place + 1]? = some c' ∧ c' < 192) from ⟨c, hc, h5⟩))] at q
            have : optN (some (place + 1)) = .int ((place : Int) + 1) := by simp [optN]
            rw [this] at q
            exact q
          · rw [if_neg (by simpa using h5)]
            exact tl (by rw [if_pos h4]; exact fun z => h5 (ex.mp z))
        · rw [if_neg (by simp; omega)]
          rw [if_neg h4] at ex
          by_cases h5 : c < 1
          · rw [if_pos (decide_eq_true h5)]
            rw [if_pos (by rw [if_neg h4]; exact (show (∃ c', data[place + 1]? = some c' ∧ c' < 1) from ⟨c, hc, h5⟩))] at q
            have : optN (some (place + 1)) = .int ((place : Int) + 1) := by simp [optN]
            rw [this] at q
            exact q
          · rw [if_neg (by simpa using h5)]
            exact tl (by rw [if_neg h4]; exact fun z => h5 (ex.mp z))
      · rw [if_neg (by simp; omega)]
        exact tl fun ⟨c, z, _⟩ => by rw [List.getElem?_eq_none (by omega)] at z; cases z
  · rw [if_pos (by simp; omega)]
    intro _
    rw [List.getElem?_eq_none (by omega)] at q
    exact q

end DL

namespace DL
open PySem L2
def outO : List Int ⊕ Nat → PyData
  | .inl x => .tuple [.tuple (intL x), .none]
  | .inr b => .tuple [.none, .int (b : Nat)]
def outN : (Int × Nat) ⊕ Nat → PyData
  | .inl (v, p) => .tuple [.tuple [.int v, .int (p : Nat)], .none]
  | .inr b => .tuple [.none, .int (b : Nat)]
theorem spec__law_opened {C : Str → Addr} (data : List Int) (hd : ∀ b ∈ data, 0 ≤ b ∧ b < 256) (hdl : data.length ≤ 1000000) {Q : DQ} {E : DX} (q : Q (.val (outO (openedD data))) []) : W__law_opened C [.val (.tuple (intL data))] [] Q E := by
  refine ⟨rfl, ?_⟩
  simp only [B__law_opened, dTryAs, dSeq, dAsg, dRet, dRetN, dIfS, dDrop, dPar, dAug, dNext, dBreak, dCont, gN, gT, gs0_nil, gsC_cons, put, slot, dVar, dC, dOp2, dOp1, dTest, asB, dTruth, dNot, dAnd, dOr, dAndV, dOrV, dNotV, dIf, dChain, bOf, vw, vws, mem, mput, dTup, dLst, dLstM, dNil, dCons, vals, dSl, dPart, dNoPart, asI, pSl, pAdd, pSub, pMul, pNeg, pDiv, pMod, pLt, pLe, pGt, pGe, pInt, pIntC, pEq, pNe, pIx, pIsN, pIsNotN, pIsB, pIsNotB, pIn, pNotIn, isNone, dB, pLen, pTupleOf, pListOf, pItems, dBM, dMl, onL, pAppend, pExtend, pPopAt, dFz, asV, gSubL, dIs, isK, dRaise, dMkX, pTru, DV.is, DV.within, dIt, items, dR1, dR2, rangeD, dFor, dForT, dLc, dLcM, wipeD, dYes, dCall, refsOf, inn, back, wb, outn, List.map_cons, List.map_nil, List.length_cons, List.length_nil, List.cons_append, List.nil_append, List.append_nil, List.drop_nil, List.take_nil, List.drop_zero, true_and, and_true, if_true, ite_true, forall_const, Bool.not_true, Bool.not_false, Bool.false_eq_true, if_false, shp_int, shp_none, shp_bool, shp_nil, eqv_int, eqv_list_nil, atI_last, atI_0, atI_1, atI_2, atI_3, map_val_int, Int.reduceNeg, atI_map, pMax, pMin, pSum, pAll, pAny, pToInt, pAbs, exists_eq_left', exists_eq_left, Option.some.injEq, isEmpty_snoc, cutD_init, List.contains_nil, List.drop_succ_cons, List.take_succ_cons, sl, Nat.reduceAdd, Nat.reduceLeDiff, Nat.reduceLT, Int.reduceLT, Int.reduceLE, Int.reduceAdd, Int.reduceSub, Int.reduceMul, Int.reduceEq, eq_self, Nat.zero_add, decide_true, decide_false, List.replicate]
  refine spec_opened data hd hdl (fun x h => ?_) fun b h => ?_
  · rw [h] at q
    simp only [dSeq, dAsg, dRet, dRetN, dIfS, dDrop, dPar, dAug, dNext, dBreak, dCont, gN, gT, gs0_nil, gsC_cons, put, slot, dVar, dC, dOp2, dOp1, dTest, asB, dTruth, dNot, dAnd, dOr, dAndV, dOrV, dNotV, dIf, dChain, bOf, vw, vws, mem, mput, dTup, dLst, dLstM, dNil, dCons, vals, dSl, dPart, dNoPart, asI, pSl, pAdd, pSub, pMul, pNeg, pDiv, pMod, pLt, pLe, pGt, pGe, pInt, pIntC, pEq, pNe, pIx, pIsN, pIsNotN, pIsB, pIsNotB, pIn, pNotIn, isNone, dB, pLen, pTupleOf, pListOf, pItems, dBM, dMl, onL, pAppend, pExtend, pPopAt, dFz, asV, gSubL, dIs, isK, dRaise, dMkX, pTru, DV.is, DV.within, dIt, items, dR1, dR2, rangeD, dFor, dForT, dLc, dLcM, wipeD, dYes, dCall, refsOf, inn, back, wb, outn, List.map_cons, List.map_nil, List.length_cons, List.length_nil, List.cons_append, List.nil_append, List.append_nil, List.drop_nil, List.take_nil, List.drop_zero, true_and, and_true, if_true, ite_true, forall_const, Bool.not_true, Bool.not_false, Bool.false_eq_true, if_false, shp_int, shp_none, shp_bool, shp_nil, eqv_int, eqv_list_nil, atI_last, atI_0, atI_1, atI_2, atI_3, map_val_int, Int.reduceNeg, atI_map, pMax, pMin, pSum, pAll, pAny, pToInt, pAbs, exists_eq_left', exists_eq_left, Option.some.injEq, isEmpty_snoc, cutD_init, List.contains_nil, List.drop_succ_cons, List.take_succ_cons, sl, Nat.reduceAdd, Nat.reduceLeDiff, Nat.reduceLT, Int.reduceLT, Int.reduceLE, Int.reduceAdd, Int.reduceSub, Int.reduceMul, Int.reduceEq, eq_self, Nat.zero_add, decide_true, decide_false]
    exact q
  · rw [h] at q
    refine .inl ⟨by simp [mOne], fun a d => ⟨_, _, rfl, rfl, ?_⟩⟩
    simp only [dSeq, dAsg, dRet, dRetN, dIfS, dDrop, dPar, dAug, dNext, dBreak, dCont, gN, gT, gs0_nil, gsC_cons, put, slot, dVar, dC, dOp2, dOp1, dTest, asB, dTruth, dNot, dAnd, dOr, dAndV, dOrV, dNotV, dIf, dChain, bOf, vw, vws, mem, mput, dTup, dLst, dLstM, dNil, dCons, vals, dSl, dPart, dNoPart, asI, pSl, pAdd, pSub, pMul, pNeg, pDiv, pMod, pLt, pLe, pGt, pGe, pInt, pIntC, pEq, pNe, pIx, pIsN, pIsNotN, pIsB, pIsNotB, pIn, pNotIn, isNone, dB, pLen, pTupleOf, pListOf, pItems, dBM, dMl, onL, pAppend, pExtend, pPopAt, dFz, asV, gSubL, dIs, isK, dRaise, dMkX, pTru, DV.is, DV.within, dIt, items, dR1, dR2, rangeD, dFor, dForT, dLc, dLcM, wipeD, dYes, dCall, refsOf, inn, back, wb, outn, List.map_cons, List.map_nil, List.length_cons, List.length_nil, List.cons_append, List.nil_append, List.append_nil, List.drop_nil, List.take_nil, List.drop_zero, true_and, and_true, if_true, ite_true, forall_const, Bool.not_true, Bool.not_false, Bool.false_eq_true, if_false, shp_int, shp_none, shp_bool, shp_nil, eqv_int, eqv_list_nil, atI_last, atI_0, atI_1, atI_2, atI_3, map_val_int, Int.reduceNeg, atI_map, pMax, pMin, pSum, pAll, pAny, pToInt, pAbs, exists_eq_left', exists_eq_left, Option.some.injEq, isEmpty_snoc, cutD_init, List.contains_nil, List.drop_succ_cons, List.take_succ_cons, sl, Nat.reduceAdd, Nat.reduceLeDiff, Nat.reduceLT, Int.reduceLT, Int.reduceLE, Int.reduceAdd, Int.reduceSub, Int.reduceMul, Int.reduceEq, eq_self, Nat.zero_add, decide_true, decide_false]
    exact q
theorem spec__law_read {C : Str → Addr} (data : List Int) (hd : ∀ b ∈ data, 0 ≤ b ∧ b < 256) (hdl : data.length ≤ 1000000) (place : Nat) (hp : place ≤ 1000000) {Q : DQ} {E : DX} (q : Q (.val (outN (readN data place))) []) : W__law_read C [.val (.tuple (intL data)), .val (.int place)] [] Q E := by
  refine ⟨rfl, ?_⟩
  simp only [B__law_read, dTryAs, dSeq, dAsg, dRet, dRetN, dIfS, dDrop, dPar, dAug, dNext, dBreak, dCont, gN, gT, gs0_nil, gsC_cons, put, slot, dVar, dC, dOp2, dOp1, dTest, asB, dTruth, dNot, dAnd, dOr, dAndV, dOrV, dNotV, dIf, dChain, bOf, vw, vws, mem, mput, dTup, dLst, dLstM, dNil, dCons, vals, dSl, dPart, dNoPart, asI, pSl, pAdd, pSub, pMul, pNeg, pDiv, pMod, pLt, pLe, pGt, pGe, pInt, pIntC, pEq, pNe, pIx, pIsN, pIsNotN, pIsB, pIsNotB, pIn, pNotIn, isNone, dB, pLen, pTupleOf, pListOf, pItems, dBM, dMl, onL, pAppend, pExtend, pPopAt, dFz, asV, gSubL, dIs, isK, dRaise, dMkX, pTru, DV.is, DV.within, dIt, items, dR1, dR2, rangeD, dFor, dForT, dLc, dLcM, wipeD, dYes, dCall, refsOf, inn, back, wb, outn, List.map_cons, List.map_nil, List.length_cons, List.length_nil, List.cons_append, List.nil_append, List.append_nil, List.drop_nil, List.take_nil, List.drop_zero, true_and, and_true, if_true, ite_true, forall_const, Bool.not_true, Bool.not_false, Bool.false_eq_true, if_false, shp_int, shp_none, shp_bool, shp_nil, eqv_int, eqv_list_nil, atI_last, atI_0, atI_1, atI_2, atI_3, map_val_int, Int.reduceNeg, atI_map, pMax, pMin, pSum, pAll, pAny, pToInt, pAbs, exists_eq_left', exists_eq_left, Option.some.injEq, isEmpty_snoc, cutD_init, List.contains_nil, List.drop_succ_cons, List.take_succ_cons, sl, Nat.reduceAdd, Nat.reduceLeDiff, Nat.reduceLT, Int.reduceLT, Int.reduceLE, Int.reduceAdd, Int.reduceSub, Int.reduceMul, Int.reduceEq, eq_self, Nat.zero_add, decide_true, decide_false, List.replicate]
  refine spec_read_number data hd hdl place hp (fun v p h => ?_) fun b h => ?_
  · rw [h] at q
    simp only [dSeq, dAsg, dRet, dRetN, dIfS, dDrop, dPar, dAug, dNext, dBreak, dCont, gN, gT, gs0_nil, gsC_cons, put, slot, dVar, dC, dOp2, dOp1, dTest, asB, dTruth, dNot, dAnd, dOr, dAndV, dOrV, dNotV, dIf, dChain, bOf, vw, vws, mem, mput, dTup, dLst, dLstM, dNil, dCons, vals, dSl, dPart, dNoPart, asI, pSl, pAdd, pSub, pMul, pNeg, pDiv, pMod, pLt, pLe, pGt, pGe, pInt, pIntC, pEq, pNe, pIx, pIsN, pIsNotN, pIsB, pIsNotB, pIn, pNotIn, isNone, dB, pLen, pTupleOf, pListOf, pItems, dBM, dMl, onL, pAppend, pExtend, pPopAt, dFz, asV, gSubL, dIs, isK, dRaise, dMkX, pTru, DV.is, DV.within, dIt, items, dR1, dR2, rangeD, dFor, dForT, dLc, dLcM, wipeD, dYes, dCall, refsOf, inn, back, wb, outn, List.map_cons, List.map_nil, List.length_cons, List.length_nil, List.cons_append, List.nil_append, List.append_nil, List.drop_nil, List.take_nil, List.drop_zero, true_and, and_true, if_true, ite_true, forall_const, Bool.not_true, Bool.not_false, Bool.false_eq_true, if_false, shp_int, shp_none, shp_bool, shp_nil, eqv_int, eqv_list_nil, atI_last, atI_0, atI_1, atI_2, atI_3, map_val_int, Int.reduceNeg, atI_map, pMax, pMin, pSum, pAll, pAny, pToInt, pAbs, exists_eq_left', exists_eq_left, Option.some.injEq, isEmpty_snoc, cutD_init, List.contains_nil, List.drop_succ_cons, List.take_succ_cons, sl, Nat.reduceAdd, Nat.reduceLeDiff, Nat.reduceLT, Int.reduceLT, Int.reduceLE, Int.reduceAdd, Int.reduceSub, Int.reduceMul, Int.reduceEq, eq_self, Nat.zero_add, decide_true, decide_false]
    exact q
  · rw [h] at q
    refine .inl ⟨by simp [mOne], fun a d => ⟨_, _, rfl, rfl, ?_⟩⟩
    simp only [dSeq, dAsg, dRet, dRetN, dIfS, dDrop, dPar, dAug, dNext, dBreak, dCont, gN, gT, gs0_nil, gsC_cons, put, slot, dVar, dC, dOp2, dOp1, dTest, asB, dTruth, dNot, dAnd, dOr, dAndV, dOrV, dNotV, dIf, dChain, bOf, vw, vws, mem, mput, dTup, dLst, dLstM, dNil, dCons, vals, dSl, dPart, dNoPart, asI, pSl, pAdd, pSub, pMul, pNeg, pDiv, pMod, pLt, pLe, pGt, pGe, pInt, pIntC, pEq, pNe, pIx, pIsN, pIsNotN, pIsB, pIsNotB, pIn, pNotIn, isNone, dB, pLen, pTupleOf, pListOf, pItems, dBM, dMl, onL, pAppend, pExtend, pPopAt, dFz, asV, gSubL, dIs, isK, dRaise, dMkX, pTru, DV.is, DV.within, dIt, items, dR1, dR2, rangeD, dFor, dForT, dLc, dLcM, wipeD, dYes, dCall, refsOf, inn, back, wb, outn, List.map_cons, List.map_nil, List.length_cons, List.length_nil, List.cons_append, List.nil_append, List.append_nil, List.drop_nil, List.take_nil, List.drop_zero, true_and, and_true, if_true, ite_true, forall_const, Bool.not_true, Bool.not_false, Bool.false_eq_true, if_false, shp_int, shp_none, shp_bool, shp_nil, eqv_int, eqv_list_nil, atI_last, atI_0, atI_1, atI_2, atI_3, map_val_int, Int.reduceNeg, atI_map, pMax, pMin, pSum, pAll, pAny, pToInt, pAbs, exists_eq_left', exists_eq_left, Option.some.injEq, isEmpty_snoc, cutD_init, List.contains_nil, List.drop_succ_cons, List.take_succ_cons, sl, Nat.reduceAdd, Nat.reduceLeDiff, Nat.reduceLT, Int.reduceLT, Int.reduceLE, Int.reduceAdd, Int.reduceSub, Int.reduceMul, Int.reduceEq, eq_self, Nat.zero_add, decide_true, decide_false]
    exact q
theorem openedD_inr {data : List Int} (hd : ∀ b ∈ data, 0 ≤ b ∧ b < 256) {b : Nat} (h : openedD data = .inr b) : b ≤ data.length := by
  unfold openedD at h
  cases hr : readN data 0 with
  | inr k => rw [hr] at h; cases h; exact (readN_inr hd hr).2
  | inl vp =>
    obtain ⟨v, p⟩ := vp
    rw [hr] at h
    simp only at h
    split at h
    · cases h; omega
    · split at h
      · cases h; omega
      · cases h
theorem spec__law_refused {C : Str → Addr} (data : List Int) (hd : ∀ b ∈ data, 0 ≤ b ∧ b < 256) (hdl : data.length ≤ 1000000) {b : Nat} (hb : openedD data = .inr b) {Q : DQ} {E : DX} (q : Q (.val (.bool true)) []) : W__law_refused C [.val (.tuple (intL data))] [] Q E := by
  refine ⟨rfl, ?_⟩
  simp only [B__law_refused, dSeq, dAsg, dRet, dRetN, dIfS, dDrop, dPar, dAug, dNext, dBreak, dCont, gN, gT, gs0_nil, gsC_cons, put, slot, dVar, dC, dOp2, dOp1, dTest, asB, dTruth, dNot, dAnd, dOr, dAndV, dOrV, dNotV, dIf, dChain, bOf, vw, vws, mem, mput, dTup, dLst, dLstM, dNil, dCons, vals, dSl, dPart, dNoPart, asI, pSl, pAdd, pSub, pMul, pNeg, pDiv, pMod, pLt, pLe, pGt, pGe, pInt, pIntC, pEq, pNe, pIx, pIsN, pIsNotN, pIsB, pIsNotB, pIn, pNotIn, isNone, dB, pLen, pTupleOf, pListOf, pItems, dBM, dMl, onL, pAppend, pExtend, pPopAt, dFz, asV, gSubL, dIs, isK, dRaise, dMkX, pTru, DV.is, DV.within, dIt, items, dR1, dR2, rangeD, dFor, dForT, dLc, dLcM, wipeD, dYes, dCall, refsOf, inn, back, wb, outn, List.map_cons, List.map_nil, List.length_cons, List.length_nil, List.cons_append, List.nil_append, List.append_nil, List.drop_nil, List.take_nil, List.drop_zero, true_and, and_true, if_true, ite_true, forall_const, Bool.not_true, Bool.not_false, Bool.false_eq_true, if_false, shp_int, shp_none, shp_bool, shp_nil, eqv_int, eqv_list_nil, atI_last, atI_0, atI_1, atI_2, atI_3, map_val_int, Int.reduceNeg, atI_map, pMax, pMin, pSum, pAll, pAny, pToInt, pAbs, exists_eq_left', exists_eq_left, Option.some.injEq, isEmpty_snoc, cutD_init, List.contains_nil, List.drop_succ_cons, List.take_succ_cons, sl, Nat.reduceAdd, Nat.reduceLeDiff, Nat.reduceLT, Int.reduceLT, Int.reduceLE, Int.reduceAdd, Int.reduceSub, Int.reduceMul, Int.reduceEq, eq_self, Nat.zero_add, decide_true, decide_false, List.replicate]
  have hl := openedD_inr hd hb
  refine spec__law_opened data hd hdl ?_
  rw [hb]
  simp only [outO, dSeq, dAsg, dRet, dRetN, dIfS, dDrop, dPar, dAug, dNext, dBreak, dCont, gN, gT, gs0_nil, gsC_cons, put, slot, dVar, dC, dOp2, dOp1, dTest, asB, dTruth, dNot, dAnd, dOr, dAndV, dOrV, dNotV, dIf, dChain, bOf, vw, vws, mem, mput, dTup, dLst, dLstM, dNil, dCons, vals, dSl, dPart, dNoPart, asI, pSl, pAdd, pSub, pMul, pNeg, pDiv, pMod, pLt, pLe, pGt, pGe, pInt, pIntC, pEq, pNe, pIx, pIsN, pIsNotN, pIsB, pIsNotB, pIn, pNotIn, isNone, dB, pLen, pTupleOf, pListOf, pItems, dBM, dMl, onL, pAppend, pExtend, pPopAt, dFz, asV, gSubL, dIs, isK, dRaise, dMkX, pTru, DV.is, DV.within, dIt, items, dR1, dR2, rangeD, dFor, dForT, dLc, dLcM, wipeD, dYes, dCall, refsOf, inn, back, wb, outn, List.map_cons, List.map_nil, List.length_cons, List.length_nil, List.cons_append, List.nil_append, List.append_nil, List.drop_nil, List.take_nil, List.drop_zero, true_and, and_true, if_true, ite_true, forall_const, Bool.not_true, Bool.not_false, Bool.false_eq_true, if_false, shp_int, shp_none, shp_bool, shp_nil, eqv_int, eqv_list_nil, atI_last, atI_0, atI_1, atI_2, atI_3, map_val_int, Int.reduceNeg, atI_map, pMax, pMin, pSum, pAll, pAny, pToInt, pAbs, exists_eq_left', exists_eq_left, Option.some.injEq, isEmpty_snoc, cutD_init, List.contains_nil, List.drop_succ_cons, List.take_succ_cons, sl, Nat.reduceAdd, Nat.reduceLeDiff, Nat.reduceLT, Int.reduceLT, Int.reduceLE, Int.reduceAdd, Int.reduceSub, Int.reduceMul, Int.reduceEq, eq_self, Nat.zero_add, decide_true, decide_false, List.length_map]
  rw [if_pos (decide_eq_true (by omega))]
  intro _
  rw [decide_eq_true (by omega)]
  exact q

end DL

namespace DL
open PySem L2
theorem canAll : ∀ {ds : List PyData} {n : Nat}, PyData.canLayAll0 ds = true → PyData.depthAll ds < n → ∀ d ∈ ds, d.canLay0 = true ∧ d.depth < n
  | d :: ds, n, h, hd, e, he => by
    rw [PyData.canLayAll0] at h
    rw [PyData.depthAll] at hd
    obtain ⟨h1, h2⟩ := Bool.and_eq_true_iff.mp h
    rcases List.mem_cons.mp he with z | he
    · subst z; exact ⟨h1, by omega⟩
    · exact canAll h2 (by omega) e he
theorem range_all {n : Nat} {P : Nat → Prop} (h : ∀ i, i < n → P i) : ∀ i ∈ List.range n, P i := fun i hi => h i (List.mem_range.mp hi)
/-- the same data is the same -/
theorem spec__law_same : ∀ (n : Nat) (a : PyData) {Q : DQ} {E : DX}, a.canLay0 = true → a.depth < n → Q (.val (.bool true)) [] → W__law_same n [.val a, .val a] [] Q E
  | 0, _, _, _, _, h, _ => by omega
  | n + 1, a, Q, E, hc, hd, q => by
    refine ⟨rfl, ?_⟩
    have seq : ∀ (ds : List PyData) (Q : DQ) (E : DX) (ρ0 : PyData), (ρ0 = .tuple ds ∨ ρ0 = .list ds) → (∀ d ∈ ds, d.canLay0 = true ∧ d.depth < n) → ds.length ≤ 16777216 → Q (.val (.bool true)) [] →
        dB pAll (dCons (dLc (dR1 (dCons (dB pLen (dCons (dVar 0) dNil)) dNil)) (gN 2) dYes (x__law_same_1 (W__law_same n)) [2]) dNil) [.val ρ0, .val ρ0, .no] [] Q E := fun ds Q E ρ0 h0 hds hl q => by
      have key : lcL (gN 2) dYes (x__law_same_1 (W__law_same n)) [.val ρ0, .val ρ0, .no] (fun _ => True) (fun acc M2 => vws M2 [.val (.list acc)] fun es => pAll es fun d => Q (.val d) M2) ((List.range ds.length).map fun i => .val (.int (0 + (i : Nat)))) [] [] := by
        refine lcL_of (fun i : Nat => .val (.int (0 + (i : Nat)))) (fun _ => .bool true) trivial (List.range ds.length) (by rw [sl]; simp; omega) (fun i hi R R' k => ?_) ?_
        · have hi' := List.mem_range.mp hi
          have e : atI ds ((0 : Int) + (i : Nat)) = some ds[i] := by rw [show (0 : Int) + (i : Nat) = (i : Nat) by omega, atI_nat _ _ hi', List.getElem?_eq_getElem hi']
          have hm := hds ds[i] (List.getElem_mem hi')
          rcases h0 with rfl | rfl
          all_goals
            simp only [x__law_same_1, dSeq, dAsg, dRet, dRetN, dIfS, dDrop, dPar, dAug, dNext, dBreak, dCont, gN, gT, gs0_nil, gsC_cons, put, slot, dVar, dC, dOp2, dOp1, dTest, asB, dTruth, dNot, dAnd, dOr, dAndV, dOrV, dNotV, dIf, dChain, bOf, vw, vws, mem, mput, dTup, dLst, dLstM, dNil, dCons, vals, dSl, dPart, dNoPart, asI, pSl, pAdd, pSub, pMul, pNeg, pDiv, pMod, pLt, pLe, pGt, pGe, pInt, pIntC, pEq, pNe, pIx, pIsN, pIsNotN, pIsB, pIsNotB, pIn, pNotIn, isNone, dB, pLen, pTupleOf, pListOf, pItems, dBM, dMl, onL, pAppend, pExtend, pPopAt, dFz, asV, gSubL, dIs, isK, dRaise, dMkX, pTru, DV.is, DV.within, dIt, items, dR1, dR2, rangeD, dFor, dForT, dLc, dLcM, wipeD, dYes, dCall, refsOf, inn, back, wb, outn, List.map_cons, List.map_nil, List.length_cons, List.length_nil, List.cons_append, List.nil_append, List.append_nil, List.drop_nil, List.take_nil, List.drop_zero, true_and, and_true, if_true, ite_true, forall_const, Bool.not_true, Bool.not_false, Bool.false_eq_true, if_false, shp_int, shp_none, shp_bool, shp_nil, eqv_int, eqv_list_nil, atI_last, atI_0, atI_1, atI_2, atI_3, map_val_int, Int.reduceNeg, atI_map, pMax, pMin, pSum, pAll, pAny, pToInt, pAbs, exists_eq_left', exists_eq_left, Option.some.injEq, isEmpty_snoc, cutD_init, List.contains_nil, List.drop_succ_cons, List.take_succ_cons, sl, Nat.reduceAdd, Nat.reduceLeDiff, Nat.reduceLT, Int.reduceLT, Int.reduceLE, Int.reduceAdd, Int.reduceSub, Int.reduceMul, Int.reduceEq, eq_self, Nat.zero_add, decide_true, decide_false]
            refine ⟨_, e, _, e, ?_⟩
            exact spec__law_same n ds[i] hm.1 hm.2 k
        · simp only [vws, vw, pAll]
          refine all_true (fun d hd => ?_) ?_
          · obtain ⟨_, _, rfl⟩ := List.mem_map.mp hd; rfl
          · have : ((List.range ds.length).map fun _ => true).all id = true := by
              rw [List.all_eq_true]
              intro b hb
              obtain ⟨_, _, rfl⟩ := List.mem_map.mp hb; rfl
            simp only [List.map_map, Function.comp_def, this]
            exact q
      rcases h0 with rfl | rfl
      all_goals
        simp only [dSeq, dAsg, dRet, dRetN, dIfS, dDrop, dPar, dAug, dNext, dBreak, dCont, gN, gT, gs0_nil, gsC_cons, put, slot, dVar, dC, dOp2, dOp1, dTest, asB, dTruth, dNot, dAnd, dOr, dAndV, dOrV, dNotV, dIf, dChain, bOf, vw, vws, mem, mput, dTup, dLst, dLstM, dNil, dCons, vals, dSl, dPart, dNoPart, asI, pSl, pAdd, pSub, pMul, pNeg, pDiv, pMod, pLt, pLe, pGt, pGe, pInt, pIntC, pEq, pNe, pIx, pIsN, pIsNotN, pIsB, pIsNotB, pIn, pNotIn, isNone, dB, pLen, pTupleOf, pListOf, pItems, dBM, dMl, onL, pAppend, pExtend, pPopAt, dFz, asV, gSubL, dIs, isK, dRaise, dMkX, pTru, DV.is, DV.within, dIt, items, dR1, dR2, rangeD, dFor, dForT, dLc, dLcM, wipeD, dYes, dCall, refsOf, inn, back, wb, outn, List.map_cons, List.map_nil, List.length_cons, List.length_nil, List.cons_append, List.nil_append, List.append_nil, List.drop_nil, List.take_nil, List.drop_zero, true_and, and_true, if_true, ite_true, forall_const, Bool.not_true, Bool.not_false, Bool.false_eq_true, if_false, shp_int, shp_none, shp_bool, shp_nil, eqv_int, eqv_list_nil, atI_last, atI_0, atI_1, atI_2, atI_3, map_val_int, Int.reduceNeg, atI_map, pMax, pMin, pSum, pAll, pAny, pToInt, pAbs, exists_eq_left', exists_eq_left, Option.some.injEq, isEmpty_snoc, cutD_init, List.contains_nil, List.drop_succ_cons, List.take_succ_cons, sl, Nat.reduceAdd, Nat.reduceLeDiff, Nat.reduceLT, Int.reduceLT, Int.reduceLE, Int.reduceAdd, Int.reduceSub, Int.reduceMul, Int.reduceEq, eq_self, Nat.zero_add, decide_true, decide_false, Int.toNat_natCast]
        intro _
        exact ⟨by omega, by omega, key⟩
    cases a with
    | none =>
      simp only [B__law_same, dSeq, dAsg, dRet, dRetN, dIfS, dDrop, dPar, dAug, dNext, dBreak, dCont, gN, gT, gs0_nil, gsC_cons, put, slot, dVar, dC, dOp2, dOp1, dTest, asB, dTruth, dNot, dAnd, dOr, dAndV, dOrV, dNotV, dIf, dChain, bOf, vw, vws, mem, mput, dTup, dLst, dLstM, dNil, dCons, vals, dSl, dPart, dNoPart, asI, pSl, pAdd, pSub, pMul, pNeg, pDiv, pMod, pLt, pLe, pGt, pGe, pInt, pIntC, pEq, pNe, pIx, pIsN, pIsNotN, pIsB, pIsNotB, pIn, pNotIn, isNone, dB, pLen, pTupleOf, pListOf, pItems, dBM, dMl, onL, pAppend, pExtend, pPopAt, dFz, asV, gSubL, dIs, isK, dRaise, dMkX, pTru, DV.is, DV.within, dIt, items, dR1, dR2, rangeD, dFor, dForT, dLc, dLcM, wipeD, dYes, dCall, refsOf, inn, back, wb, outn, List.map_cons, List.map_nil, List.length_cons, List.length_nil, List.cons_append, List.nil_append, List.append_nil, List.drop_nil, List.take_nil, List.drop_zero, true_and, and_true, if_true, ite_true, forall_const, Bool.not_true, Bool.not_false, Bool.false_eq_true, if_false, shp_int, shp_none, shp_bool, shp_nil, eqv_int, eqv_list_nil, atI_last, atI_0, atI_1, atI_2, atI_3, map_val_int, Int.reduceNeg, atI_map, pMax, pMin, pSum, pAll, pAny, pToInt, pAbs, exists_eq_left', exists_eq_left, Option.some.injEq, isEmpty_snoc, cutD_init, List.contains_nil, List.drop_succ_cons, List.take_succ_cons, sl, Nat.reduceAdd, Nat.reduceLeDiff, Nat.reduceLT, Int.reduceLT, Int.reduceLE, Int.reduceAdd, Int.reduceSub, Int.reduceMul, Int.reduceEq, eq_self, Nat.zero_add, decide_true, decide_false, List.replicate]
      exact q
    | bool b =>
      simp only [B__law_same, dSeq, dAsg, dRet, dRetN, dIfS, dDrop, dPar, dAug, dNext, dBreak, dCont, gN, gT, gs0_nil, gsC_cons, put, slot, dVar, dC, dOp2, dOp1, dTest, asB, dTruth, dNot, dAnd, dOr, dAndV, dOrV, dNotV, dIf, dChain, bOf, vw, vws, mem, mput, dTup, dLst, dLstM, dNil, dCons, vals, dSl, dPart, dNoPart, asI, pSl, pAdd, pSub, pMul, pNeg, pDiv, pMod, pLt, pLe, pGt, pGe, pInt, pIntC, pEq, pNe, pIx, pIsN, pIsNotN, pIsB, pIsNotB, pIn, pNotIn, isNone, dB, pLen, pTupleOf, pListOf, pItems, dBM, dMl, onL, pAppend, pExtend, pPopAt, dFz, asV, gSubL, dIs, isK, dRaise, dMkX, pTru, DV.is, DV.within, dIt, items, dR1, dR2, rangeD, dFor, dForT, dLc, dLcM, wipeD, dYes, dCall, refsOf, inn, back, wb, outn, List.map_cons, List.map_nil, List.length_cons, List.length_nil, List.cons_append, List.nil_append, List.append_nil, List.drop_nil, List.take_nil, List.drop_zero, true_and, and_true, if_true, ite_true, forall_const, Bool.not_true, Bool.not_false, Bool.false_eq_true, if_false, shp_int, shp_none, shp_bool, shp_nil, eqv_int, eqv_list_nil, atI_last, atI_0, atI_1, atI_2, atI_3, map_val_int, Int.reduceNeg, atI_map, pMax, pMin, pSum, pAll, pAny, pToInt, pAbs, exists_eq_left', exists_eq_left, Option.some.injEq, isEmpty_snoc, cutD_init, List.contains_nil, List.drop_succ_cons, List.take_succ_cons, sl, Nat.reduceAdd, Nat.reduceLeDiff, Nat.reduceLT, Int.reduceLT, Int.reduceLE, Int.reduceAdd, Int.reduceSub, Int.reduceMul, Int.reduceEq, eq_self, Nat.zero_add, decide_true, decide_false, List.replicate]
      have e : PyData.eqv (.bool b) (.bool b) = true := by simp [PyData.eqv]
      rw [e]
      exact q
    | int i =>
      simp only [B__law_same, dSeq, dAsg, dRet, dRetN, dIfS, dDrop, dPar, dAug, dNext, dBreak, dCont, gN, gT, gs0_nil, gsC_cons, put, slot, dVar, dC, dOp2, dOp1, dTest, asB, dTruth, dNot, dAnd, dOr, dAndV, dOrV, dNotV, dIf, dChain, bOf, vw, vws, mem, mput, dTup, dLst, dLstM, dNil, dCons, vals, dSl, dPart, dNoPart, asI, pSl, pAdd, pSub, pMul, pNeg, pDiv, pMod, pLt, pLe, pGt, pGe, pInt, pIntC, pEq, pNe, pIx, pIsN, pIsNotN, pIsB, pIsNotB, pIn, pNotIn, isNone, dB, pLen, pTupleOf, pListOf, pItems, dBM, dMl, onL, pAppend, pExtend, pPopAt, dFz, asV, gSubL, dIs, isK, dRaise, dMkX, pTru, DV.is, DV.within, dIt, items, dR1, dR2, rangeD, dFor, dForT, dLc, dLcM, wipeD, dYes, dCall, refsOf, inn, back, wb, outn, List.map_cons, List.map_nil, List.length_cons, List.length_nil, List.cons_append, List.nil_append, List.append_nil, List.drop_nil, List.take_nil, List.drop_zero, true_and, and_true, if_true, ite_true, forall_const, Bool.not_true, Bool.not_false, Bool.false_eq_true, if_false, shp_int, shp_none, shp_bool, shp_nil, eqv_int, eqv_list_nil, atI_last, atI_0, atI_1, atI_2, atI_3, map_val_int, Int.reduceNeg, atI_map, pMax, pMin, pSum, pAll, pAny, pToInt, pAbs, exists_eq_left', exists_eq_left, Option.some.injEq, isEmpty_snoc, cutD_init, List.contains_nil, List.drop_succ_cons, List.take_succ_cons, sl, Nat.reduceAdd, Nat.reduceLeDiff, Nat.reduceLT, Int.reduceLT, Int.reduceLE, Int.reduceAdd, Int.reduceSub, Int.reduceMul, Int.reduceEq, eq_self, Nat.zero_add, decide_true, decide_false, List.replicate]
      exact q
    | str x =>
      have hs : SeqAt.shaped (.str x) = true := Sh.shaped (n := 0) ⟨hc, by simp [PyData.depth]⟩ (by decide)
      have e : PyData.eqv (.str x) (.str x) = true := by simp [PyData.eqv]
      simp only [B__law_same, dSeq, dAsg, dRet, dRetN, dIfS, dDrop, dPar, dAug, dNext, dBreak, dCont, gN, gT, gs0_nil, gsC_cons, put, slot, dVar, dC, dOp2, dOp1, dTest, asB, dTruth, dNot, dAnd, dOr, dAndV, dOrV, dNotV, dIf, dChain, bOf, vw, vws, mem, mput, dTup, dLst, dLstM, dNil, dCons, vals, dSl, dPart, dNoPart, asI, pSl, pAdd, pSub, pMul, pNeg, pDiv, pMod, pLt, pLe, pGt, pGe, pInt, pIntC, pEq, pNe, pIx, pIsN, pIsNotN, pIsB, pIsNotB, pIn, pNotIn, isNone, dB, pLen, pTupleOf, pListOf, pItems, dBM, dMl, onL, pAppend, pExtend, pPopAt, dFz, asV, gSubL, dIs, isK, dRaise, dMkX, pTru, DV.is, DV.within, dIt, items, dR1, dR2, rangeD, dFor, dForT, dLc, dLcM, wipeD, dYes, dCall, refsOf, inn, back, wb, outn, List.map_cons, List.map_nil, List.length_cons, List.length_nil, List.cons_append, List.nil_append, List.append_nil, List.drop_nil, List.take_nil, List.drop_zero, true_and, and_true, if_true, ite_true, forall_const, Bool.not_true, Bool.not_false, Bool.false_eq_true, if_false, shp_int, shp_none, shp_bool, shp_nil, eqv_int, eqv_list_nil, atI_last, atI_0, atI_1, atI_2, atI_3, map_val_int, Int.reduceNeg, atI_map, pMax, pMin, pSum, pAll, pAny, pToInt, pAbs, exists_eq_left', exists_eq_left, Option.some.injEq, isEmpty_snoc, cutD_init, List.contains_nil, List.drop_succ_cons, List.take_succ_cons, sl, Nat.reduceAdd, Nat.reduceLeDiff, Nat.reduceLT, Int.reduceLT, Int.reduceLE, Int.reduceAdd, Int.reduceSub, Int.reduceMul, Int.reduceEq, eq_self, Nat.zero_add, decide_true, decide_false, List.replicate, hs, e]
      exact q
    | list ds =>
      rw [PyData.canLay0] at hc
      rw [PyData.depth] at hd
      have hds := canAll hc (Nat.lt_of_succ_lt_succ hd)
      have fin := fun Q E => seq ds Q E (.list ds) (.inr rfl) hds
      generalize hG : dB pAll (dCons (dLc (dR1 (dCons (dB pLen (dCons (dVar 0) dNil)) dNil)) (gN 2) dYes (x__law_same_1 (W__law_same n)) [2]) dNil) = G at fin
      simp only [B__law_same, hG]
      simp only [dSeq, dAsg, dRet, dRetN, dIfS, dDrop, dPar, dAug, dNext, dBreak, dCont, gN, gT, gs0_nil, gsC_cons, put, slot, dVar, dC, dOp2, dOp1, dTest, asB, dTruth, dNot, dAnd, dOr, dAndV, dOrV, dNotV, dIf, dChain, bOf, vw, vws, mem, mput, dTup, dLst, dLstM, dNil, dCons, vals, dSl, dPart, dNoPart, asI, pSl, pAdd, pSub, pMul, pNeg, pDiv, pMod, pLt, pLe, pGt, pGe, pInt, pIntC, pEq, pNe, pIx, pIsN, pIsNotN, pIsB, pIsNotB, pIn, pNotIn, isNone, dB, pLen, pTupleOf, pListOf, pItems, dBM, dMl, onL, pAppend, pExtend, pPopAt, dFz, asV, gSubL, dIs, isK, dRaise, dMkX, pTru, DV.is, DV.within, dIt, items, dR1, dR2, rangeD, dFor, dForT, dLc, dLcM, wipeD, dYes, dCall, refsOf, inn, back, wb, outn, List.map_cons, List.map_nil, List.length_cons, List.length_nil, List.cons_append, List.nil_append, List.append_nil, List.drop_nil, List.take_nil, List.drop_zero, true_and, and_true, if_true, ite_true, forall_const, Bool.not_true, Bool.not_false, Bool.false_eq_true, if_false, shp_int, shp_none, shp_bool, shp_nil, eqv_int, eqv_list_nil, atI_last, atI_0, atI_1, atI_2, atI_3, map_val_int, Int.reduceNeg, atI_map, pMax, pMin, pSum, pAll, pAny, pToInt, pAbs, exists_eq_left', exists_eq_left, Option.some.injEq, isEmpty_snoc, cutD_init, List.contains_nil, List.drop_succ_cons, List.take_succ_cons, sl, Nat.reduceAdd, Nat.reduceLeDiff, Nat.reduceLT, Int.reduceLT, Int.reduceLE, Int.reduceAdd, Int.reduceSub, Int.reduceMul, Int.reduceEq, eq_self, Nat.zero_add, decide_true, decide_false, List.replicate]
      intro hz _
      exact fin _ _ hz ⟨trivial, q⟩
    | tuple ds =>
      rw [PyData.canLay0] at hc
      rw [PyData.depth] at hd
      have hds := canAll hc (Nat.lt_of_succ_lt_succ hd)
      have fin := fun Q E => seq ds Q E (.tuple ds) (.inl rfl) hds
      generalize hG : dB pAll (dCons (dLc (dR1 (dCons (dB pLen (dCons (dVar 0) dNil)) dNil)) (gN 2) dYes (x__law_same_1 (W__law_same n)) [2]) dNil) = G at fin
      simp only [B__law_same, hG]
      simp only [dSeq, dAsg, dRet, dRetN, dIfS, dDrop, dPar, dAug, dNext, dBreak, dCont, gN, gT, gs0_nil, gsC_cons, put, slot, dVar, dC, dOp2, dOp1, dTest, asB, dTruth, dNot, dAnd, dOr, dAndV, dOrV, dNotV, dIf, dChain, bOf, vw, vws, mem, mput, dTup, dLst, dLstM, dNil, dCons, vals, dSl, dPart, dNoPart, asI, pSl, pAdd, pSub, pMul, pNeg, pDiv, pMod, pLt, pLe, pGt, pGe, pInt, pIntC, pEq, pNe, pIx, pIsN, pIsNotN, pIsB, pIsNotB, pIn, pNotIn, isNone, dB, pLen, pTupleOf, pListOf, pItems, dBM, dMl, onL, pAppend, pExtend, pPopAt, dFz, asV, gSubL, dIs, isK, dRaise, dMkX, pTru, DV.is, DV.within, dIt, items, dR1, dR2, rangeD, dFor, dForT, dLc, dLcM, wipeD, dYes, dCall, refsOf, inn, back, wb, outn, List.map_cons, List.map_nil, List.length_cons, List.length_nil, List.cons_append, List.nil_append, List.append_nil, List.drop_nil, List.take_nil, List.drop_zero, true_and, and_true, if_true, ite_true, forall_const, Bool.not_true, Bool.not_false, Bool.false_eq_true, if_false, shp_int, shp_none, shp_bool, shp_nil, eqv_int, eqv_list_nil, atI_last, atI_0, atI_1, atI_2, atI_3, map_val_int, Int.reduceNeg, atI_map, pMax, pMin, pSum, pAll, pAny, pToInt, pAbs, exists_eq_left', exists_eq_left, Option.some.injEq, isEmpty_snoc, cutD_init, List.contains_nil, List.drop_succ_cons, List.take_succ_cons, sl, Nat.reduceAdd, Nat.reduceLeDiff, Nat.reduceLT, Int.reduceLT, Int.reduceLE, Int.reduceAdd, Int.reduceSub, Int.reduceMul, Int.reduceEq, eq_self, Nat.zero_add, decide_true, decide_false, List.replicate]
      intro hz _
      exact fin _ _ hz ⟨trivial, q⟩
    | dict _ => rw [PyData.canLay0] at hc; cases hc
theorem same_of {n : Nat} {d : PyData} {Q : DQ} {E : DX} (h : Sh n d) (hn : n < 12) (q : Q (.val (.bool true)) []) : W__law_same 12 [.val d, .val d] [] Q E := spec__law_same 12 d h.1 (Nat.lt_of_le_of_lt h.2 hn) q

end DL

namespace DL
open PySem L2
/-! hurt ones are refused -/
theorem chk3_len (c : Int) : (chk3 c).length = 3 := rfl
theorem chk3_inj {a b : Int} (ha : 0 ≤ a ∧ a < 16777213) (hb : 0 ≤ b ∧ b < 16777213) (h : chk3 a = chk3 b) : a = b := by
  unfold chk3 at h
  simp only [List.cons.injEq, and_true] at h
  obtain ⟨h1, h2, h3⟩ := h
  omega
theorem sealD_len (x : List Int) : (sealD x).length = (numB x.length).length + x.length + 3 := by
  unfold sealD
  rw [List.length_append, List.length_append, chk3_len]
theorem openedD_eq {data x : List Int} (h : openedD data = .inl x) : data = sealD x := by
  unfold openedD at h
  cases hr : readN data 0 with
  | inr k => rw [hr] at h; cases h
  | inl vp =>
    obtain ⟨v, p⟩ := vp
    rw [hr] at h
    simp only at h
    split at h
    · cases h
    · split at h
      · cases h
      · rename_i h2
        simp only [Sum.inl.injEq] at h
        rw [← h]
        exact (Classical.not_not.mp h2).symm
theorem opened_trip (x : List Int) (hx : x.length < 256 ^ 64) : openedD (sealD x) = .inl x := by
  have e : sealD x = [] ++ (numB x.length ++ (x ++ chk3 (chk x))) := by simp [sealD]
  have hr := readN_trip [] (x ++ chk3 (chk x)) x.length hx
  rw [← e] at hr
  unfold openedD
  rw [show (0 : Nat) = ([] : List Int).length from rfl, hr]
  simp only [List.length_nil, Nat.zero_add, Int.toNat_natCast]
  have ed : ((sealD x).drop (numB x.length).length).take x.length = x := by
    unfold sealD
    rw [List.append_assoc, List.drop_left, List.take_left]
  rw [if_neg (by rw [sealD_len]; simp), ed, if_neg (by simp)]
theorem refused_of {data : List Int} (h : ∀ y, data ≠ sealD y) : ∃ b, openedD data = .inr b := by
  cases hr : openedD data with
  | inr b => exact ⟨b, rfl⟩
  | inl y => exact (h y (openedD_eq hr)).elim
/-- what is sealed is no beginning of anything else that is -/
theorem seal_prefix {x y e : List Int} (hx : x.length < 256 ^ 64) (hy : y.length < 256 ^ 64) (h : sealD x ++ e = sealD y) : e = [] := by
  have h1 := readN_trip [] (x ++ chk3 (chk x) ++ e) x.length hx
  have h2 := readN_trip [] (y ++ chk3 (chk y)) y.length hy
  have e1 : ([] : List Int) ++ (numB x.length ++ (x ++ chk3 (chk x) ++ e)) = sealD y := by rw [← h]; simp [sealD]
  have e2 : ([] : List Int) ++ (numB y.length ++ (y ++ chk3 (chk y))) = sealD y := by simp [sealD]
  rw [e1] at h1
  rw [e2] at h2
  rw [h1] at h2
  simp only [Sum.inl.injEq, Prod.mk.injEq] at h2
  have hl : x.length = y.length := by omega
  have := congrArg List.length h
  rw [List.length_append, sealD_len, sealD_len, hl] at this
  exact List.eq_nil_of_length_eq_zero (by omega)
theorem numB_len256 {n : Nat} (h : n < 256) : (numB n).length = if n < 192 then 1 else 2 := by
  unfold numB
  split
  · rfl
  · rw [digs_small (by omega) h]; rfl
theorem seal_len_inj {x y : List Int} (hx : x.length < 256) (h : (sealD x).length = (sealD y).length) : x.length = y.length := by
  rw [sealD_len, sealD_len, numB_len256 hx] at h
  by_cases hy : y.length < 256
  · rw [numB_len256 hy] at h
    split at h <;> split at h <;> omega
  · have : 2 ≤ (numB y.length).length := by
      obtain ⟨c, t, ed, _⟩ := digs_head y.length (by omega)
      unfold numB
      rw [if_neg (by omega), ed]
      simp
    split at h <;> omega
theorem chkF_inj {f g b : Int} (hf : 0 ≤ f ∧ f < 16777213) (hg : 0 ≤ g ∧ g < 16777213) (h : chkF f b = chkF g b) : f = g := by
  unfold chkF at h
  -- 259 * w = 1 mod 16777213
  have : (259 * (f - g)) % 16777213 = 0 := by omega
  have h2 : (6153804 * (259 * (f - g))) % 16777213 = 0 := by
    rw [Int.mul_emod, this]; simp
  omega
theorem fold_inj : ∀ (c : List Int) {f g : Int}, (0 ≤ f ∧ f < 16777213) → (0 ≤ g ∧ g < 16777213) → c.foldl chkF f = c.foldl chkF g → f = g
  | [], f, g, _, _, h => h
  | b :: c, f, g, hf, hg, h => chkF_inj hf hg (fold_inj c (chkF_range f b) (chkF_range g b) h)
theorem chk_change {a c : List Int} {b b' : Int} (hb : 0 ≤ b ∧ b < 256) (hb' : 0 ≤ b' ∧ b' < 256) (h : chk (a ++ b :: c) = chk (a ++ b' :: c)) : b = b' := by
  unfold chk at h
  rw [List.foldl_append, List.foldl_append, List.foldl_cons, List.foldl_cons] at h
  have := fold_inj c (chkF_range _ b) (chkF_range _ b') h
  unfold chkF at this
  omega
theorem chk_swap {a c : List Int} {b b' : Int} (hb : 0 ≤ b ∧ b < 256) (hb' : 0 ≤ b' ∧ b' < 256) (h : chk (a ++ b :: b' :: c) = chk (a ++ b' :: b :: c)) : b = b' := by
  unfold chk at h
  rw [List.foldl_append, List.foldl_append, List.foldl_cons, List.foldl_cons, List.foldl_cons, List.foldl_cons] at h
  have := fold_inj c (chkF_range _ b') (chkF_range _ b) h
  generalize List.foldl chkF 1 a = f at this
  unfold chkF at this
  omega
theorem take_take {x e : List Int} {n m : Nat} (h : x.take n = e) (hm : m ≤ n) : e.take m = x.take m := by rw [← h, List.take_take, Nat.min_eq_left hm]
/-- of the same length, with the same first and last part -/
theorem seal_split {x y : List Int} (hl : x.length = y.length) : sealD x = numB x.length ++ (x ++ chk3 (chk x)) ∧ sealD y = numB x.length ++ (y ++ chk3 (chk y)) := by
  constructor
  · simp [sealD]
  · rw [hl]; simp [sealD]
theorem cut_refused {x : List Int} (hx : x.length < 256) {k : Nat} (hk : k < (sealD x).length) : ∃ b, openedD ((sealD x).take k) = .inr b := refused_of fun y e => by
  have hy : y.length < 256 ^ 64 := by
    have h1 := congrArg List.length e
    rw [List.length_take, sealD_len y] at h1
    have h2 := sealD_len x
    have h3 := numB_len x.length (Nat.lt_of_lt_of_le hx (by decide))
    exact Nat.lt_of_lt_of_le (show y.length < 1000 by omega) (by decide)
  have := seal_prefix (e := (sealD x).drop k) hy (Nat.lt_of_lt_of_le hx (by decide)) (by rw [← e, List.take_append_drop])
  have h2 := congrArg List.length this
  rw [List.length_drop, List.length_nil] at h2
  omega
theorem more_refused {x e : List Int} (hx : x.length < 256) (he : e ≠ []) (hel : e.length < 1000) : ∃ b, openedD (sealD x ++ e) = .inr b := refused_of fun y h => by
  have hy : y.length < 256 ^ 64 := by
    have h1 := congrArg List.length h
    rw [List.length_append, sealD_len y] at h1
    have h2 := sealD_len x
    have h3 := numB_len x.length (Nat.lt_of_lt_of_le hx (by decide))
    exact Nat.lt_of_lt_of_le (show y.length < 2000 by omega) (by decide)
  exact he (seal_prefix (Nat.lt_of_lt_of_le hx (by decide)) hy h)
theorem one_refused {x : List Int} (hx : x.length < 256) (hr : ∀ b ∈ x, 0 ≤ b ∧ b < 256) {k : Nat} (hk : k < (sealD x).length) {o : Int} (ho : 0 ≤ o ∧ o < 256) (hne : o ≠ (sealD x)[k]) : ∃ b, openedD ((sealD x).take k ++ o :: (sealD x).drop (k + 1)) = .inr b := refused_of fun y h => by
  have hlen : (sealD x).length = (sealD y).length := by
    rw [← h, List.length_append, List.length_take, List.length_cons, List.length_drop]; omega
  have hl := seal_len_inj hx hlen
  obtain ⟨ex, ey⟩ := seal_split hl
  have hset : sealD y = (sealD x).set k o := by rw [← h, List.set_eq_take_append_cons_drop, if_pos hk]
  -- all but place k is the same
  have same : ∀ i (h1 : i < (sealD x).length), i ≠ k → (sealD y)[i]'(by omega) = (sealD x)[i] := fun i h1 hi => by
    have : (sealD y)[i]? = (sealD x)[i]? := by rw [hset, List.getElem?_set_ne (Ne.symm hi)]
    rw [List.getElem?_eq_getElem (by omega), List.getElem?_eq_getElem h1] at this
    exact Option.some.inj this
  have at_k : (sealD y)[k]'(by omega) = o := by
    have : (sealD y)[k]? = some o := by rw [hset, List.getElem?_set_self hk]
    rw [List.getElem?_eq_getElem (by omega)] at this
    exact Option.some.inj this
  have L := sealD_len x
  have gx : ∀ i (hi : i < x.length), (sealD x)[(numB x.length).length + i]'(by omega) = x[i] := fun i hi => by
    simp only [ex]
    rw [List.getElem_append_right (by omega), List.getElem_append_left (by omega)]
    simp
  have gy : ∀ i (hi : i < x.length), (sealD y)[(numB x.length).length + i]'(by omega) = y[i] := fun i hi => by
    simp only [ey]
    rw [List.getElem_append_right (by omega), List.getElem_append_left (by omega)]
    simp
  have cx : ∀ i (hi : i < 3), (sealD x)[(numB x.length).length + x.length + i]'(by omega) = (chk3 (chk x))[i] := fun i hi => by
    simp only [ex]
    rw [List.getElem_append_right (by omega), List.getElem_append_right (by omega)]
    congr 1
    omega
  have cy : ∀ i (hi : i < 3), (sealD y)[(numB x.length).length + x.length + i]'(by omega) = (chk3 (chk y))[i] := fun i hi => by
    simp only [ey]
    rw [List.getElem_append_right (by omega), List.getElem_append_right (by omega)]
    congr 1
    omega
  by_cases h1 : k < (numB x.length).length
  · -- the length's own bytes
    have : (sealD y)[k]'(by omega) = (sealD x)[k] := by
      simp only [ex, ey]
      rw [List.getElem_append_left h1, List.getElem_append_left h1]
    exact hne (by rw [← at_k, this])
  · by_cases h2 : k < (numB x.length).length + x.length
    · -- a byte inside
      have hc : chk3 (chk x) = chk3 (chk y) := List.ext_getElem rfl fun i hi1 hi2 => by
        have hi3 : i < 3 := hi1
        exact (cx i hi3).symm.trans ((same _ (by omega) (by omega)).symm.trans (cy i hi3))
      have hc := chk3_inj (chk_range x) (chk_range y) hc
      obtain ⟨j, ej⟩ : ∃ j, k = (numB x.length).length + j := ⟨k - (numB x.length).length, by omega⟩
      have hj : j < x.length := by omega
      have xe : x = x.take j ++ x[j] :: x.drop (j + 1) := by rw [← List.drop_eq_getElem_cons hj, List.take_append_drop]
      have yj : y[j]'(by omega) = o := by rw [← gy j hj, ← at_k]; congr 1; exact ej.symm
      have ye : y = x.take j ++ o :: x.drop (j + 1) := by
        refine List.ext_getElem (by simp; omega) fun i hi1 hi2 => ?_
        by_cases hij : i = j
        · subst hij
          rw [yj, List.getElem_append_right (by rw [List.length_take]; omega)]
          simp [Nat.min_eq_left (Nat.le_of_lt hj)]
        · have e1 : y[i] = x[i]'(by omega) := by rw [← gy i (by omega), ← gx i (by omega)]; exact same _ (by omega) (by omega)
          rw [e1]
          have : x[i]? = (x.take j ++ o :: x.drop (j + 1))[i]? := by
            rw [show x.take j ++ o :: x.drop (j + 1) = x.set j o from by rw [List.set_eq_take_append_cons_drop, if_pos hj], List.getElem?_set_ne (Ne.symm hij)]
          rw [List.getElem?_eq_getElem (by omega), List.getElem?_eq_getElem hi2] at this
          exact Option.some.inj this
      have hxj := hr x[j] (List.getElem_mem hj)
      have := chk_change (a := x.take j) (c := x.drop (j + 1)) hxj ho (by rw [← xe, ← ye]; exact hc)
      refine hne ?_
      rw [← this, ← gx j hj]
      congr 1
      exact ej.symm
    · -- a byte of the check
      have yx : y = x := List.ext_getElem hl.symm fun i hi1 hi2 => by
        rw [← gy i hi2, ← gx i hi2]
        exact same _ (by omega) (by omega)
      have : (sealD y)[k]'(by omega) = (sealD x)[k] := by simp only [yx]
      exact hne (by rw [← at_k, this])
theorem swap_refused {x : List Int} (hx : x.length < 256) (hr : ∀ b ∈ x, 0 ≤ b ∧ b < 256) {j : Nat} (hj : j + 1 < x.length) (hne : x[j] ≠ x[j + 1]) :
    ∃ b, openedD (numB x.length ++ (x.take j ++ x[j + 1] :: x[j] :: x.drop (j + 2)) ++ chk3 (chk x)) = .inr b := refused_of fun y h => by
  have hlen : (sealD x).length = (sealD y).length := by
    rw [← h, sealD_len]
    simp only [List.length_append, List.length_take, List.length_cons, List.length_drop, chk3_len]
    omega
  have hl := seal_len_inj hx hlen
  obtain ⟨ex, ey⟩ := seal_split hl
  rw [ey, List.append_assoc] at h
  have h := List.append_cancel_left h
  obtain ⟨h1, h2⟩ := List.append_inj h (by simp only [List.length_append, List.length_take, List.length_cons, List.length_drop]; omega)
  have hc := chk3_inj (chk_range x) (chk_range y) h2
  have xe : x = x.take j ++ x[j] :: x[j + 1] :: x.drop (j + 2) := by rw [← List.drop_eq_getElem_cons hj, ← List.drop_eq_getElem_cons (by omega), List.take_append_drop]
  have := chk_swap (a := x.take j) (c := x.drop (j + 2)) (hr x[j] (List.getElem_mem (by omega))) (hr x[j + 1] (List.getElem_mem hj)) (by rw [← xe, h1]; exact hc)
  exact hne this

end DL

namespace DL
open PySem L2
theorem chk3_range {c : Int} (h : 0 ≤ c ∧ c < 16777213) : ∀ b ∈ chk3 c, 0 ≤ b ∧ b < 256 := fun b hb => by
  simp only [chk3, List.mem_cons, List.not_mem_nil, or_false] at hb
  rcases hb with rfl | rfl | rfl <;> omega
theorem sealD_range {x : List Int} (hx : x.length < 256) (hr : ∀ b ∈ x, 0 ≤ b ∧ b < 256) : ∀ b ∈ sealD x, 0 ≤ b ∧ b < 256 := fun b hb => by
  rcases List.mem_append.mp hb with hb | hb
  · rcases List.mem_append.mp hb with hb | hb
    · exact numB_range x.length (Nat.lt_of_lt_of_le hx (by decide)) b hb
    · exact hr b hb
  · exact chk3_range (chk_range x) b hb
theorem sealD_small {x : List Int} (hx : x.length < 256) : (sealD x).length ≤ 330 := by
  have := sealD_len x
  have := numB_len x.length (Nat.lt_of_lt_of_le hx (by decide))
  omega
theorem rng_app {a b : List Int} (ha : ∀ x ∈ a, 0 ≤ x ∧ x < 256) (hb : ∀ x ∈ b, 0 ≤ x ∧ x < 256) : ∀ x ∈ a ++ b, 0 ≤ x ∧ x < 256 := fun x hx => by
  rcases List.mem_append.mp hx with h | h
  · exact ha x h
  · exact hb x h
theorem rng_take {a : List Int} {n : Nat} (ha : ∀ x ∈ a, 0 ≤ x ∧ x < 256) : ∀ x ∈ a.take n, 0 ≤ x ∧ x < 256 := fun x hx => ha x (List.mem_of_mem_take hx)
theorem rng_drop {a : List Int} {n : Nat} (ha : ∀ x ∈ a, 0 ≤ x ∧ x < 256) : ∀ x ∈ a.drop n, 0 ≤ x ∧ x < 256 := fun x hx => ha x (List.mem_of_mem_drop hx)
theorem rng_one {o : Int} (ho : 0 ≤ o ∧ o < 256) : ∀ x ∈ [o], 0 ≤ x ∧ x < 256 := fun x hx => by rw [List.mem_singleton.mp hx]; exact ho
theorem intL_take (xs : List Int) (n : Nat) : List.take n (intL xs) = intL (xs.take n) := List.map_take.symm
theorem intL_drop (xs : List Int) (n : Nat) : List.drop n (intL xs) = intL (xs.drop n) := List.map_drop.symm
theorem intL_app (a b : List Int) : intL a ++ intL b = intL (a ++ b) := List.map_append.symm
theorem intL_cons1 (i : Int) : [PyData.int i] = intL [i] := rfl
theorem intL_cons2 (i j : Int) : [PyData.int i, .int j] = intL [i, j] := rfl
section
variable {C : Str → Addr} {D : DEn} {C' : Mem → Prop} {x : List Int} (hx : x.length < 256) (hr : ∀ b ∈ x, 0 ≤ b ∧ b < 256)
include hx hr
theorem k18_4 (hC : ∀ M, C' M) {s0 s2 s3 s4 s5 s6 s7 s9 s10 s11 s12 s13 s14 s17 s18 s19 : DV} : ∀ (n f : Nat) (s8 : DV), (numB x.length).length ≤ f → f + n + 1 ≤ (numB x.length).length + x.length ∨ n = 0 →
    (∀ s8, D.nx [s0, .ref 0, s2, s3, s4, s5, s6, s7, s8, s9, s10, s11, s12, s13, s14, .val (.tuple (intL x)), .val (.tuple (intL (sealD x))), s17, s18, s19] Bx) →
    forL (gN 8) (b_law_4 C) D C' ((List.range' f n).map fun i => .val (.int (i : Nat))) [s0, .ref 0, s2, s3, s4, s5, s6, s7, s8, s9, s10, s11, s12, s13, s14, .val (.tuple (intL x)), .val (.tuple (intL (sealD x))), s17, s18, s19] Bx
  | 0, f, s8, _, _, q => ⟨hC _, q s8⟩
  | n + 1, f, s8, hf, hn, q => by
    refine ⟨hC _, ?_⟩
    have ih := k18_4 hC (s0 := s0) (s2 := s2) (s3 := s3) (s4 := s4) (s5 := s5) (s6 := s6) (s7 := s7) (s9 := s9) (s10 := s10) (s11 := s11) (s12 := s12) (s13 := s13) (s14 := s14) (s17 := s17) (s18 := s18) (s19 := s19) n (f + 1) (.val (.int (f : Nat))) (by omega) (by omega) q
    show b_law_4 C { D with nx := forL (gN 8) (b_law_4 C) D C' ((List.range' (f + 1) n).map fun i => .val (.int (i : Nat))), ct := forL (gN 8) (b_law_4 C) D C' ((List.range' (f + 1) n).map fun i => .val (.int (i : Nat))), bk := D.nx } [s0, .ref 0, s2, s3, s4, s5, s6, s7, .val (.int (f : Nat)), s9, s10, s11, s12, s13, s14, .val (.tuple (intL x)), .val (.tuple (intL (sealD x))), s17, s18, s19] Bx
    generalize forL (gN 8) (b_law_4 C) D C' ((List.range' (f + 1) n).map fun i => .val (.int (i : Nat))) = K at ih ⊢
    have L := sealD_len x
    have S := sealD_small hx
    obtain ⟨j, ej⟩ : ∃ j, f = (numB x.length).length + j := ⟨f - (numB x.length).length, by omega⟩
    have hj : j + 1 < x.length := by omega
    have g0 : (sealD x)[f]? = some x[j] := by
      rw [ej]; unfold sealD
      rw [List.append_assoc, List.getElem?_append_right (by omega), Nat.add_sub_cancel_left, List.getElem?_append_left (by omega), List.getElem?_eq_getElem]
    have g1 : (sealD x)[f + 1]? = some x[j + 1] := by
      rw [ej]; unfold sealD
      rw [List.append_assoc, List.getElem?_append_right (by omega), show (numB x.length).length + j + 1 - (numB x.length).length = j + 1 by omega, List.getElem?_append_left (by omega), List.getElem?_eq_getElem]
    have a0 : atI (sealD x) (f : Int) = some x[j] := by rw [atI_nat _ _ (by omega)]; exact g0
    have a1 : atI (sealD x) ((f : Int) + 1) = some x[j + 1] := by rw [show (f : Int) + 1 = ((f + 1 : Nat) : Int) by omega, atI_nat _ _ (by omega)]; exact g1
    simp only [b_law_4, a0, a1, cutD_map, cutD_take _ (show (0 : Int) ≤ f by omega), cutD_drop _ (show (0 : Int) ≤ (f : Int) + 2 by omega), Option.map_some, dSeq, dAsg, dRet, dRetN, dIfS, dDrop, dPar, dAug, dNext, dBreak, dCont, gN, gT, gs0_nil, gsC_cons, put, slot, dVar, dC, dOp2, dOp1, dTest, asB, dTruth, dNot, dAnd, dOr, dAndV, dOrV, dNotV, dIf, dChain, bOf, vw, vws, mem, mput, dTup, dLst, dLstM, dNil, dCons, vals, dSl, dPart, dNoPart, asI, pSl, pAdd, pSub, pMul, pNeg, pDiv, pMod, pLt, pLe, pGt, pGe, pInt, pIntC, pEq, pNe, pIx, pIsN, pIsNotN, pIsB, pIsNotB, pIn, pNotIn, isNone, dB, pLen, pTupleOf, pListOf, pItems, dBM, dMl, onL, pAppend, pExtend, pPopAt, dFz, asV, gSubL, dIs, isK, dRaise, dMkX, pTru, DV.is, DV.within, dIt, items, dR1, dR2, rangeD, dFor, dForT, dLc, dLcM, wipeD, dYes, dCall, refsOf, inn, back, wb, outn, List.map_cons, List.map_nil, List.length_cons, List.length_nil, List.cons_append, List.nil_append, List.append_nil, List.drop_nil, List.take_nil, List.drop_zero, true_and, and_true, if_true, ite_true, forall_const, Bool.not_true, Bool.not_false, Bool.false_eq_true, if_false, shp_int, shp_none, shp_bool, shp_nil, eqv_int, eqv_list_nil, atI_last, atI_0, atI_1, atI_2, atI_3, map_val_int, Int.reduceNeg, atI_map, pMax, pMin, pSum, pAll, pAny, pToInt, pAbs, exists_eq_left', exists_eq_left, Option.some.injEq, isEmpty_snoc, cutD_init, List.contains_nil, List.drop_succ_cons, List.take_succ_cons, sl, Nat.reduceAdd, Nat.reduceLeDiff, Nat.reduceLT, Int.reduceLT, Int.reduceLE, Int.reduceAdd, Int.reduceSub, Int.reduceMul, Int.reduceEq, eq_self, Nat.zero_add, decide_true, decide_false, List.length_map]
    by_cases he : x[j] = x[j + 1]
    · rw [if_neg (by simp [he])]
      exact ih
    · rw [if_pos (by simp [he])]
      rw [show ((f : Int)).toNat = f by omega, show ((f : Int) + 2).toNat = f + 2 by omega, intL_cons2]
      simp only [intL_take, intL_drop, intL_app]
      have e1 : (sealD x).take f = numB x.length ++ x.take j := by
        rw [ej]; unfold sealD
        rw [List.append_assoc, List.take_append, List.take_of_length_le (by omega), Nat.add_sub_cancel_left, List.take_append, show j - x.length = 0 by omega]
        simp
      have e2 : (sealD x).drop (f + 2) = x.drop (j + 2) ++ chk3 (chk x) := by
        rw [ej]; unfold sealD
        rw [List.append_assoc, List.drop_append, List.drop_eq_nil_of_le (by omega), List.nil_append, show (numB x.length).length + j + 2 - (numB x.length).length = j + 2 by omega, List.drop_append, show j + 2 - x.length = 0 by omega]
        simp
      have e3 : (sealD x).take f ++ [x[j + 1], x[j]] ++ (sealD x).drop (f + 2) = numB x.length ++ (x.take j ++ x[j + 1] :: x[j] :: x.drop (j + 2)) ++ chk3 (chk x) := by
        rw [e1, e2]; simp
      rw [e3]
      obtain ⟨b, hb⟩ := swap_refused hx hr hj he
      have hrg : ∀ b ∈ numB x.length ++ (x.take j ++ x[j + 1] :: x[j] :: x.drop (j + 2)) ++ chk3 (chk x), 0 ≤ b ∧ b < 256 := by
        rw [← e3]
        refine rng_app (rng_app (rng_take (sealD_range hx hr)) fun y hy => ?_) (rng_drop (sealD_range hx hr))
        rcases List.mem_cons.mp hy with rfl | hy
        · exact hr _ (List.getElem_mem _)
        · rw [List.mem_singleton.mp hy]; exact hr _ (List.getElem_mem _)
      refine ⟨by simp; omega, by simp; omega, ?_⟩
      refine spec__law_refused _ hrg (by rw [← e3]; simp; omega) hb ?_
      simp only [dSeq, dAsg, dRet, dRetN, dIfS, dDrop, dPar, dAug, dNext, dBreak, dCont, gN, gT, gs0_nil, gsC_cons, put, slot, dVar, dC, dOp2, dOp1, dTest, asB, dTruth, dNot, dAnd, dOr, dAndV, dOrV, dNotV, dIf, dChain, bOf, vw, vws, mem, mput, dTup, dLst, dLstM, dNil, dCons, vals, dSl, dPart, dNoPart, asI, pSl, pAdd, pSub, pMul, pNeg, pDiv, pMod, pLt, pLe, pGt, pGe, pInt, pIntC, pEq, pNe, pIx, pIsN, pIsNotN, pIsB, pIsNotB, pIn, pNotIn, isNone, dB, pLen, pTupleOf, pListOf, pItems, dBM, dMl, onL, pAppend, pExtend, pPopAt, dFz, asV, gSubL, dIs, isK, dRaise, dMkX, pTru, DV.is, DV.within, dIt, items, dR1, dR2, rangeD, dFor, dForT, dLc, dLcM, wipeD, dYes, dCall, refsOf, inn, back, wb, outn, List.map_cons, List.map_nil, List.length_cons, List.length_nil, List.cons_append, List.nil_append, List.append_nil, List.drop_nil, List.take_nil, List.drop_zero, true_and, and_true, if_true, ite_true, forall_const, Bool.not_true, Bool.not_false, Bool.false_eq_true, if_false, shp_int, shp_none, shp_bool, shp_nil, eqv_int, eqv_list_nil, atI_last, atI_0, atI_1, atI_2, atI_3, map_val_int, Int.reduceNeg, atI_map, pMax, pMin, pSum, pAll, pAny, pToInt, pAbs, exists_eq_left', exists_eq_left, Option.some.injEq, isEmpty_snoc, cutD_init, List.contains_nil, List.drop_succ_cons, List.take_succ_cons, sl, Nat.reduceAdd, Nat.reduceLeDiff, Nat.reduceLT, Int.reduceLT, Int.reduceLE, Int.reduceAdd, Int.reduceSub, Int.reduceMul, Int.reduceEq, eq_self, Nat.zero_add, decide_true, decide_false]
      exact ih
theorem k18_3 (hC : ∀ M, C' M) {s0 s2 s3 s4 s5 s6 s7 s9 s10 s11 s12 s13 s14 s19 : DV} : ∀ (is : List DV) (s8 s17 s18 : DV),
    (∀ s8 s17 s18, D.nx [s0, .ref 0, s2, s3, s4, s5, s6, s7, s8, s9, s10, s11, s12, s13, s14, .val (.tuple (intL x)), .val (.tuple (intL (sealD x))), s17, s18, s19] Bx) →
    forL (gN 17) (b_law_3 C) D C' is [s0, .ref 0, s2, s3, s4, s5, s6, s7, s8, s9, s10, s11, s12, s13, s14, .val (.tuple (intL x)), .val (.tuple (intL (sealD x))), s17, s18, s19] Bx
  | [], s8, s17, s18, q => ⟨hC _, q s8 s17 s18⟩
  | i :: is, s8, s17, s18, q => by
    refine ⟨hC _, ?_⟩
    have ih := fun s8 s18 => k18_3 hC (s0 := s0) (s2 := s2) (s3 := s3) (s4 := s4) (s5 := s5) (s6 := s6) (s7 := s7) (s9 := s9) (s10 := s10) (s11 := s11) (s12 := s12) (s13 := s13) (s14 := s14) (s19 := s19) is s8 i s18 q
    show b_law_3 C { D with nx := forL (gN 17) (b_law_3 C) D C' is, ct := forL (gN 17) (b_law_3 C) D C' is, bk := D.nx } [s0, .ref 0, s2, s3, s4, s5, s6, s7, s8, s9, s10, s11, s12, s13, s14, .val (.tuple (intL x)), .val (.tuple (intL (sealD x))), i, s18, s19] Bx
    generalize forL (gN 17) (b_law_3 C) D C' is = K at ih ⊢
    have L := sealD_len x
    have S := sealD_small hx
    simp only [b_law_3, dSeq, dAsg, dRet, dRetN, dIfS, dDrop, dPar, dAug, dNext, dBreak, dCont, gN, gT, gs0_nil, gsC_cons, put, slot, dVar, dC, dOp2, dOp1, dTest, asB, dTruth, dNot, dAnd, dOr, dAndV, dOrV, dNotV, dIf, dChain, bOf, vw, vws, mem, mput, dTup, dLst, dLstM, dNil, dCons, vals, dSl, dPart, dNoPart, asI, pSl, pAdd, pSub, pMul, pNeg, pDiv, pMod, pLt, pLe, pGt, pGe, pInt, pIntC, pEq, pNe, pIx, pIsN, pIsNotN, pIsB, pIsNotB, pIn, pNotIn, isNone, dB, pLen, pTupleOf, pListOf, pItems, dBM, dMl, onL, pAppend, pExtend, pPopAt, dFz, asV, gSubL, dIs, isK, dRaise, dMkX, pTru, DV.is, DV.within, dIt, items, dR1, dR2, rangeD, dFor, dForT, dLc, dLcM, wipeD, dYes, dCall, refsOf, inn, back, wb, outn, List.map_cons, List.map_nil, List.length_cons, List.length_nil, List.cons_append, List.nil_append, List.append_nil, List.drop_nil, List.take_nil, List.drop_zero, true_and, and_true, if_true, ite_true, forall_const, Bool.not_true, Bool.not_false, Bool.false_eq_true, if_false, shp_int, shp_none, shp_bool, shp_nil, eqv_int, eqv_list_nil, atI_last, atI_0, atI_1, atI_2, atI_3, map_val_int, Int.reduceNeg, atI_map, pMax, pMin, pSum, pAll, pAny, pToInt, pAbs, exists_eq_left', exists_eq_left, Option.some.injEq, isEmpty_snoc, cutD_init, List.contains_nil, List.drop_succ_cons, List.take_succ_cons, sl, Nat.reduceAdd, Nat.reduceLeDiff, Nat.reduceLT, Int.reduceLT, Int.reduceLE, Int.reduceAdd, Int.reduceSub, Int.reduceMul, Int.reduceEq, eq_self, Nat.zero_add, decide_true, decide_false, List.length_map]
    intro _
    refine draw_box ((sealD x).length : Int) (by omega) (by omega) rfl rfl fun k k0 k1 => ?_
    simp only [dSeq, dAsg, dRet, dRetN, dIfS, dDrop, dPar, dAug, dNext, dBreak, dCont, gN, gT, gs0_nil, gsC_cons, put, slot, dVar, dC, dOp2, dOp1, dTest, asB, dTruth, dNot, dAnd, dOr, dAndV, dOrV, dNotV, dIf, dChain, bOf, vw, vws, mem, mput, dTup, dLst, dLstM, dNil, dCons, vals, dSl, dPart, dNoPart, asI, pSl, pAdd, pSub, pMul, pNeg, pDiv, pMod, pLt, pLe, pGt, pGe, pInt, pIntC, pEq, pNe, pIx, pIsN, pIsNotN, pIsB, pIsNotB, pIn, pNotIn, isNone, dB, pLen, pTupleOf, pListOf, pItems, dBM, dMl, onL, pAppend, pExtend, pPopAt, dFz, asV, gSubL, dIs, isK, dRaise, dMkX, pTru, DV.is, DV.within, dIt, items, dR1, dR2, rangeD, dFor, dForT, dLc, dLcM, wipeD, dYes, dCall, refsOf, inn, back, wb, outn, List.map_cons, List.map_nil, List.length_cons, List.length_nil, List.cons_append, List.nil_append, List.append_nil, List.drop_nil, List.take_nil, List.drop_zero, true_and, and_true, if_true, ite_true, forall_const, Bool.not_true, Bool.not_false, Bool.false_eq_true, if_false, shp_int, shp_none, shp_bool, shp_nil, eqv_int, eqv_list_nil, atI_last, atI_0, atI_1, atI_2, atI_3, map_val_int, Int.reduceNeg, atI_map, pMax, pMin, pSum, pAll, pAny, pToInt, pAbs, exists_eq_left', exists_eq_left, Option.some.injEq, isEmpty_snoc, cutD_init, List.contains_nil, List.drop_succ_cons, List.take_succ_cons, sl, Nat.reduceAdd, Nat.reduceLeDiff, Nat.reduceLT, Int.reduceLT, Int.reduceLE, Int.reduceAdd, Int.reduceSub, Int.reduceMul, Int.reduceEq, eq_self, Nat.zero_add, decide_true, decide_false]
    refine draw_box 255 (by decide) (by decide) rfl rfl fun o o0 o1 => ?_
    obtain ⟨f, ef⟩ : ∃ f : Nat, k = f := ⟨k.toNat, by omega⟩
    subst ef
    have hf : f < (sealD x).length := by omega
    have a0 : atI (sealD x) (f : Int) = some (sealD x)[f] := by rw [atI_nat _ _ hf, List.getElem?_eq_getElem hf]
    have hw := sealD_range hx hr (sealD x)[f] (List.getElem_mem hf)
    simp only [a0, cutD_map, cutD_take _ (show (0 : Int) ≤ f by omega), cutD_drop _ (show (0 : Int) ≤ (f : Int) + 1 by omega), Option.map_some, dSeq, dAsg, dRet, dRetN, dIfS, dDrop, dPar, dAug, dNext, dBreak, dCont, gN, gT, gs0_nil, gsC_cons, put, slot, dVar, dC, dOp2, dOp1, dTest, asB, dTruth, dNot, dAnd, dOr, dAndV, dOrV, dNotV, dIf, dChain, bOf, vw, vws, mem, mput, dTup, dLst, dLstM, dNil, dCons, vals, dSl, dPart, dNoPart, asI, pSl, pAdd, pSub, pMul, pNeg, pDiv, pMod, pLt, pLe, pGt, pGe, pInt, pIntC, pEq, pNe, pIx, pIsN, pIsNotN, pIsB, pIsNotB, pIn, pNotIn, isNone, dB, pLen, pTupleOf, pListOf, pItems, dBM, dMl, onL, pAppend, pExtend, pPopAt, dFz, asV, gSubL, dIs, isK, dRaise, dMkX, pTru, DV.is, DV.within, dIt, items, dR1, dR2, rangeD, dFor, dForT, dLc, dLcM, wipeD, dYes, dCall, refsOf, inn, back, wb, outn, List.map_cons, List.map_nil, List.length_cons, List.length_nil, List.cons_append, List.nil_append, List.append_nil, List.drop_nil, List.take_nil, List.drop_zero, true_and, and_true, if_true, ite_true, forall_const, Bool.not_true, Bool.not_false, Bool.false_eq_true, if_false, shp_int, shp_none, shp_bool, shp_nil, eqv_int, eqv_list_nil, atI_last, atI_0, atI_1, atI_2, atI_3, map_val_int, Int.reduceNeg, atI_map, pMax, pMin, pSum, pAll, pAny, pToInt, pAbs, exists_eq_left', exists_eq_left, Option.some.injEq, isEmpty_snoc, cutD_init, List.contains_nil, List.drop_succ_cons, List.take_succ_cons, sl, Nat.reduceAdd, Nat.reduceLeDiff, Nat.reduceLT, Int.reduceLT, Int.reduceLE, Int.reduceAdd, Int.reduceSub, Int.reduceMul, Int.reduceEq, eq_self, Nat.zero_add, decide_true, decide_false, List.length_map]
    rw [show ((f : Int)).toNat = f by omega, show ((f : Int) + 1).toNat = f + 1 by omega]
    by_cases h : o < (sealD x)[f]
    · rw [if_pos (decide_eq_true h), intL_cons1]
      simp only [intL_take, intL_drop, intL_app]
      obtain ⟨b, hb⟩ := one_refused hx hr hf (o := o) (by omega) (by omega)
      rw [show (sealD x).take f ++ [o] ++ (sealD x).drop (f + 1) = (sealD x).take f ++ o :: (sealD x).drop (f + 1) by simp]
      refine ⟨by simp; omega, by simp; omega, ?_⟩
      refine spec__law_refused _ (rng_app (rng_take (sealD_range hx hr)) fun y hy => ?_) (by simp; omega) hb ?_
      · rcases List.mem_cons.mp hy with rfl | hy
        · omega
        · exact rng_drop (sealD_range hx hr) y hy
      · simp only [dSeq, dAsg, dRet, dRetN, dIfS, dDrop, dPar, dAug, dNext, dBreak, dCont, gN, gT, gs0_nil, gsC_cons, put, slot, dVar, dC, dOp2, dOp1, dTest, asB, dTruth, dNot, dAnd, dOr, dAndV, dOrV, dNotV, dIf, dChain, bOf, vw, vws, mem, mput, dTup, dLst, dLstM, dNil, dCons, vals, dSl, dPart, dNoPart, asI, pSl, pAdd, pSub, pMul, pNeg, pDiv, pMod, pLt, pLe, pGt, pGe, pInt, pIntC, pEq, pNe, pIx, pIsN, pIsNotN, pIsB, pIsNotB, pIn, pNotIn, isNone, dB, pLen, pTupleOf, pListOf, pItems, dBM, dMl, onL, pAppend, pExtend, pPopAt, dFz, asV, gSubL, dIs, isK, dRaise, dMkX, pTru, DV.is, DV.within, dIt, items, dR1, dR2, rangeD, dFor, dForT, dLc, dLcM, wipeD, dYes, dCall, refsOf, inn, back, wb, outn, List.map_cons, List.map_nil, List.length_cons, List.length_nil, List.cons_append, List.nil_append, List.append_nil, List.drop_nil, List.take_nil, List.drop_zero, true_and, and_true, if_true, ite_true, forall_const, Bool.not_true, Bool.not_false, Bool.false_eq_true, if_false, shp_int, shp_none, shp_bool, shp_nil, eqv_int, eqv_list_nil, atI_last, atI_0, atI_1, atI_2, atI_3, map_val_int, Int.reduceNeg, atI_map, pMax, pMin, pSum, pAll, pAny, pToInt, pAbs, exists_eq_left', exists_eq_left, Option.some.injEq, isEmpty_snoc, cutD_init, List.contains_nil, List.drop_succ_cons, List.take_succ_cons, sl, Nat.reduceAdd, Nat.reduceLeDiff, Nat.reduceLT, Int.reduceLT, Int.reduceLE, Int.reduceAdd, Int.reduceSub, Int.reduceMul, Int.reduceEq, eq_self, Nat.zero_add, decide_true, decide_false]
        exact ih _ _
    · rw [if_neg (by simpa using h), intL_cons1]
      simp only [intL_take, intL_drop, intL_app]
      obtain ⟨b, hb⟩ := one_refused hx hr hf (o := o + 1) (by omega) (by omega)
      rw [show (sealD x).take f ++ [o + 1] ++ (sealD x).drop (f + 1) = (sealD x).take f ++ (o + 1) :: (sealD x).drop (f + 1) by simp]
      refine ⟨by simp; omega, by simp; omega, ?_⟩
      refine spec__law_refused _ (rng_app (rng_take (sealD_range hx hr)) fun y hy => ?_) (by simp; omega) hb ?_
      · rcases List.mem_cons.mp hy with rfl | hy
        · omega
        · exact rng_drop (sealD_range hx hr) y hy
      · simp only [dSeq, dAsg, dRet, dRetN, dIfS, dDrop, dPar, dAug, dNext, dBreak, dCont, gN, gT, gs0_nil, gsC_cons, put, slot, dVar, dC, dOp2, dOp1, dTest, asB, dTruth, dNot, dAnd, dOr, dAndV, dOrV, dNotV, dIf, dChain, bOf, vw, vws, mem, mput, dTup, dLst, dLstM, dNil, dCons, vals, dSl, dPart, dNoPart, asI, pSl, pAdd, pSub, pMul, pNeg, pDiv, pMod, pLt, pLe, pGt, pGe, pInt, pIntC, pEq, pNe, pIx, pIsN, pIsNotN, pIsB, pIsNotB, pIn, pNotIn, isNone, dB, pLen, pTupleOf, pListOf, pItems, dBM, dMl, onL, pAppend, pExtend, pPopAt, dFz, asV, gSubL, dIs, isK, dRaise, dMkX, pTru, DV.is, DV.within, dIt, items, dR1, dR2, rangeD, dFor, dForT, dLc, dLcM, wipeD, dYes, dCall, refsOf, inn, back, wb, outn, List.map_cons, List.map_nil, List.length_cons, List.length_nil, List.cons_append, List.nil_append, List.append_nil, List.drop_nil, List.take_nil, List.drop_zero, true_and, and_true, if_true, ite_true, forall_const, Bool.not_true, Bool.not_false, Bool.false_eq_true, if_false, shp_int, shp_none, shp_bool, shp_nil, eqv_int, eqv_list_nil, atI_last, atI_0, atI_1, atI_2, atI_3, map_val_int, Int.reduceNeg, atI_map, pMax, pMin, pSum, pAll, pAny, pToInt, pAbs, exists_eq_left', exists_eq_left, Option.some.injEq, isEmpty_snoc, cutD_init, List.contains_nil, List.drop_succ_cons, List.take_succ_cons, sl, Nat.reduceAdd, Nat.reduceLeDiff, Nat.reduceLT, Int.reduceLT, Int.reduceLE, Int.reduceAdd, Int.reduceSub, Int.reduceMul, Int.reduceEq, eq_self, Nat.zero_add, decide_true, decide_false]
        exact ih _ _
theorem k18_r3 {s0 s2 s3 s4 s5 s6 s7 s8 s9 s10 s11 s12 s13 s14 s17 s18 s19 : DV}
    (q : ∀ s8 s17 s18 s19, D.nx [s0, .ref 0, s2, s3, s4, s5, s6, s7, s8, s9, s10, s11, s12, s13, s14, .val (.tuple (intL x)), .val (.tuple (intL (sealD x))), s17, s18, s19] Bx) :
    r_law_4 C D [s0, .ref 0, s2, s3, s4, s5, s6, s7, s8, s9, s10, s11, s12, s13, s14, .val (.tuple (intL x)), .val (.tuple (intL (sealD x))), s17, s18, s19] Bx := by
  simp only [r_law_4, dSeq, dAsg, dRet, dRetN, dIfS, dDrop, dPar, dAug, dNext, dBreak, dCont, gN, gT, gs0_nil, gsC_cons, put, slot, dVar, dC, dOp2, dOp1, dTest, asB, dTruth, dNot, dAnd, dOr, dAndV, dOrV, dNotV, dIf, dChain, bOf, vw, vws, mem, mput, dTup, dLst, dLstM, dNil, dCons, vals, dSl, dPart, dNoPart, asI, pSl, pAdd, pSub, pMul, pNeg, pDiv, pMod, pLt, pLe, pGt, pGe, pInt, pIntC, pEq, pNe, pIx, pIsN, pIsNotN, pIsB, pIsNotB, pIn, pNotIn, isNone, dB, pLen, pTupleOf, pListOf, pItems, dBM, dMl, onL, pAppend, pExtend, pPopAt, dFz, asV, gSubL, dIs, isK, dRaise, dMkX, pTru, DV.is, DV.within, dIt, items, dR1, dR2, rangeD, dFor, dForT, dLc, dLcM, wipeD, dYes, dCall, refsOf, inn, back, wb, outn, List.map_cons, List.map_nil, List.length_cons, List.length_nil, List.cons_append, List.nil_append, List.append_nil, List.drop_nil, List.take_nil, List.drop_zero, true_and, and_true, if_true, ite_true, forall_const, Bool.not_true, Bool.not_false, Bool.false_eq_true, if_false, shp_int, shp_none, shp_bool, shp_nil, eqv_int, eqv_list_nil, atI_last, atI_0, atI_1, atI_2, atI_3, map_val_int, Int.reduceNeg, atI_map, pMax, pMin, pSum, pAll, pAny, pToInt, pAbs, exists_eq_left', exists_eq_left, Option.some.injEq, isEmpty_snoc, cutD_init, List.contains_nil, List.drop_succ_cons, List.take_succ_cons, sl, Nat.reduceAdd, Nat.reduceLeDiff, Nat.reduceLT, Int.reduceLT, Int.reduceLE, Int.reduceAdd, Int.reduceSub, Int.reduceMul, Int.reduceEq, eq_self, Nat.zero_add, decide_true, decide_false]
  refine ⟨by decide, by decide, ?_⟩
  refine k18_3 hx hr (fun _ => trivial) _ _ _ _ fun s8 s17 s18 => ?_
  have L := sealD_len x
  have S := sealD_small hx
  simp only [r_law_3, dSeq, dAsg, dRet, dRetN, dIfS, dDrop, dPar, dAug, dNext, dBreak, dCont, gN, gT, gs0_nil, gsC_cons, put, slot, dVar, dC, dOp2, dOp1, dTest, asB, dTruth, dNot, dAnd, dOr, dAndV, dOrV, dNotV, dIf, dChain, bOf, vw, vws, mem, mput, dTup, dLst, dLstM, dNil, dCons, vals, dSl, dPart, dNoPart, asI, pSl, pAdd, pSub, pMul, pNeg, pDiv, pMod, pLt, pLe, pGt, pGe, pInt, pIntC, pEq, pNe, pIx, pIsN, pIsNotN, pIsB, pIsNotB, pIn, pNotIn, isNone, dB, pLen, pTupleOf, pListOf, pItems, dBM, dMl, onL, pAppend, pExtend, pPopAt, dFz, asV, gSubL, dIs, isK, dRaise, dMkX, pTru, DV.is, DV.within, dIt, items, dR1, dR2, rangeD, dFor, dForT, dLc, dLcM, wipeD, dYes, dCall, refsOf, inn, back, wb, outn, List.map_cons, List.map_nil, List.length_cons, List.length_nil, List.cons_append, List.nil_append, List.append_nil, List.drop_nil, List.take_nil, List.drop_zero, true_and, and_true, if_true, ite_true, forall_const, Bool.not_true, Bool.not_false, Bool.false_eq_true, if_false, shp_int, shp_none, shp_bool, shp_nil, eqv_int, eqv_list_nil, atI_last, atI_0, atI_1, atI_2, atI_3, map_val_int, Int.reduceNeg, atI_map, pMax, pMin, pSum, pAll, pAny, pToInt, pAbs, exists_eq_left', exists_eq_left, Option.some.injEq, isEmpty_snoc, cutD_init, List.contains_nil, List.drop_succ_cons, List.take_succ_cons, sl, Nat.reduceAdd, Nat.reduceLeDiff, Nat.reduceLT, Int.reduceLT, Int.reduceLE, Int.reduceAdd, Int.reduceSub, Int.reduceMul, Int.reduceEq, eq_self, Nat.zero_add, decide_true, decide_false, List.length_map]
  intro _ _ _
  have e1 : ((sealD x).length : Int) - x.length - 3 = ((numB x.length).length : Nat) := by omega
  have e2 : ((((numB x.length).length : Nat) : Int) + x.length - 1 - ((numB x.length).length : Nat)).toNat = x.length - 1 := by omega
  rw [e1, e2]
  refine ⟨by omega, by omega, by omega, by omega, ?_⟩
  have er := rangeD_range' (numB x.length).length (x.length - 1)
  unfold rangeD at er
  rw [er]
  exact k18_4 hx hr (fun _ => trivial) _ _ _ (Nat.le_refl _) (by omega) fun s8 => q _ _ _ _
theorem k18_r5 {byte : Int} (hb : 0 ≤ byte ∧ byte < 256) {s0 s2 s3 s4 s5 s6 s7 s8 s10 s11 s12 s13 s14 s17 s18 s19 : DV}
    (q : ∀ s8 s9 s17 s18 s19, D.nx [s0, .ref 0, s2, s3, s4, s5, s6, s7, s8, s9, s10, s11, s12, s13, s14, .val (.tuple (intL x)), .val (.tuple (intL (sealD x))), s17, s18, s19] Bx) :
    r_law_5 C D [s0, .ref 0, s2, s3, s4, s5, s6, s7, s8, .val (.int byte), s10, s11, s12, s13, s14, .val (.tuple (intL x)), .val (.tuple (intL (sealD x))), s17, s18, s19] Bx := by
  have L := sealD_len x
  have S := sealD_small hx
  have R := sealD_range hx hr
  simp only [r_law_5, dSeq, dAsg, dRet, dRetN, dIfS, dDrop, dPar, dAug, dNext, dBreak, dCont, gN, gT, gs0_nil, gsC_cons, put, slot, dVar, dC, dOp2, dOp1, dTest, asB, dTruth, dNot, dAnd, dOr, dAndV, dOrV, dNotV, dIf, dChain, bOf, vw, vws, mem, mput, dTup, dLst, dLstM, dNil, dCons, vals, dSl, dPart, dNoPart, asI, pSl, pAdd, pSub, pMul, pNeg, pDiv, pMod, pLt, pLe, pGt, pGe, pInt, pIntC, pEq, pNe, pIx, pIsN, pIsNotN, pIsB, pIsNotB, pIn, pNotIn, isNone, dB, pLen, pTupleOf, pListOf, pItems, dBM, dMl, onL, pAppend, pExtend, pPopAt, dFz, asV, gSubL, dIs, isK, dRaise, dMkX, pTru, DV.is, DV.within, dIt, items, dR1, dR2, rangeD, dFor, dForT, dLc, dLcM, wipeD, dYes, dCall, refsOf, inn, back, wb, outn, List.map_cons, List.map_nil, List.length_cons, List.length_nil, List.cons_append, List.nil_append, List.append_nil, List.drop_nil, List.take_nil, List.drop_zero, true_and, and_true, if_true, ite_true, forall_const, Bool.not_true, Bool.not_false, Bool.false_eq_true, if_false, shp_int, shp_none, shp_bool, shp_nil, eqv_int, eqv_list_nil, atI_last, atI_0, atI_1, atI_2, atI_3, map_val_int, Int.reduceNeg, atI_map, pMax, pMin, pSum, pAll, pAny, pToInt, pAbs, exists_eq_left', exists_eq_left, Option.some.injEq, isEmpty_snoc, cutD_init, List.contains_nil, List.drop_succ_cons, List.take_succ_cons, sl, Nat.reduceAdd, Nat.reduceLeDiff, Nat.reduceLT, Int.reduceLT, Int.reduceLE, Int.reduceAdd, Int.reduceSub, Int.reduceMul, Int.reduceEq, eq_self, Nat.zero_add, decide_true, decide_false, List.length_map, Int.toNat_natCast]
  intro _
  refine ⟨by omega, by omega, ?_⟩
  refine lcL_of (fun i : Nat => .val (.int (0 + (i : Nat)))) (fun _ => .bool true) trivial (List.range (sealD x).length) (by rw [sl]; simp; omega) (fun i hi Rk R' kk => ?_) ?_
  · have hi' := List.mem_range.mp hi
    simp only [x_law_5, dSeq, dAsg, dRet, dRetN, dIfS, dDrop, dPar, dAug, dNext, dBreak, dCont, gN, gT, gs0_nil, gsC_cons, put, slot, dVar, dC, dOp2, dOp1, dTest, asB, dTruth, dNot, dAnd, dOr, dAndV, dOrV, dNotV, dIf, dChain, bOf, vw, vws, mem, mput, dTup, dLst, dLstM, dNil, dCons, vals, dSl, dPart, dNoPart, asI, pSl, pAdd, pSub, pMul, pNeg, pDiv, pMod, pLt, pLe, pGt, pGe, pInt, pIntC, pEq, pNe, pIx, pIsN, pIsNotN, pIsB, pIsNotB, pIn, pNotIn, isNone, dB, pLen, pTupleOf, pListOf, pItems, dBM, dMl, onL, pAppend, pExtend, pPopAt, dFz, asV, gSubL, dIs, isK, dRaise, dMkX, pTru, DV.is, DV.within, dIt, items, dR1, dR2, rangeD, dFor, dForT, dLc, dLcM, wipeD, dYes, dCall, refsOf, inn, back, wb, outn, List.map_cons, List.map_nil, List.length_cons, List.length_nil, List.cons_append, List.nil_append, List.append_nil, List.drop_nil, List.take_nil, List.drop_zero, true_and, and_true, if_true, ite_true, forall_const, Bool.not_true, Bool.not_false, Bool.false_eq_true, if_false, shp_int, shp_none, shp_bool, shp_nil, eqv_int, eqv_list_nil, atI_last, atI_0, atI_1, atI_2, atI_3, map_val_int, Int.reduceNeg, atI_map, pMax, pMin, pSum, pAll, pAny, pToInt, pAbs, exists_eq_left', exists_eq_left, Option.some.injEq, isEmpty_snoc, cutD_init, List.contains_nil, List.drop_succ_cons, List.take_succ_cons, sl, Nat.reduceAdd, Nat.reduceLeDiff, Nat.reduceLT, Int.reduceLT, Int.reduceLE, Int.reduceAdd, Int.reduceSub, Int.reduceMul, Int.reduceEq, eq_self, Nat.zero_add, decide_true, decide_false, cutD_map, Int.zero_add]
    rw [cutD_take _ (show (0 : Int) ≤ (i : Nat) by omega), show ((i : Nat) : Int).toNat = i by omega]
    obtain ⟨b, hb⟩ := cut_refused hx hi'
    refine spec__law_refused _ (rng_take R) (by simp; omega) hb ?_
    simp only [dSeq, dAsg, dRet, dRetN, dIfS, dDrop, dPar, dAug, dNext, dBreak, dCont, gN, gT, gs0_nil, gsC_cons, put, slot, dVar, dC, dOp2, dOp1, dTest, asB, dTruth, dNot, dAnd, dOr, dAndV, dOrV, dNotV, dIf, dChain, bOf, vw, vws, mem, mput, dTup, dLst, dLstM, dNil, dCons, vals, dSl, dPart, dNoPart, asI, pSl, pAdd, pSub, pMul, pNeg, pDiv, pMod, pLt, pLe, pGt, pGe, pInt, pIntC, pEq, pNe, pIx, pIsN, pIsNotN, pIsB, pIsNotB, pIn, pNotIn, isNone, dB, pLen, pTupleOf, pListOf, pItems, dBM, dMl, onL, pAppend, pExtend, pPopAt, dFz, asV, gSubL, dIs, isK, dRaise, dMkX, pTru, DV.is, DV.within, dIt, items, dR1, dR2, rangeD, dFor, dForT, dLc, dLcM, wipeD, dYes, dCall, refsOf, inn, back, wb, outn, List.map_cons, List.map_nil, List.length_cons, List.length_nil, List.cons_append, List.nil_append, List.append_nil, List.drop_nil, List.take_nil, List.drop_zero, true_and, and_true, if_true, ite_true, forall_const, Bool.not_true, Bool.not_false, Bool.false_eq_true, if_false, shp_int, shp_none, shp_bool, shp_nil, eqv_int, eqv_list_nil, atI_last, atI_0, atI_1, atI_2, atI_3, map_val_int, Int.reduceNeg, atI_map, pMax, pMin, pSum, pAll, pAny, pToInt, pAbs, exists_eq_left', exists_eq_left, Option.some.injEq, isEmpty_snoc, cutD_init, List.contains_nil, List.drop_succ_cons, List.take_succ_cons, sl, Nat.reduceAdd, Nat.reduceLeDiff, Nat.reduceLT, Int.reduceLT, Int.reduceLE, Int.reduceAdd, Int.reduceSub, Int.reduceMul, Int.reduceEq, eq_self, Nat.zero_add, decide_true, decide_false]
    exact kk
  · simp only [dSeq, dAsg, dRet, dRetN, dIfS, dDrop, dPar, dAug, dNext, dBreak, dCont, gN, gT, gs0_nil, gsC_cons, put, slot, dVar, dC, dOp2, dOp1, dTest, asB, dTruth, dNot, dAnd, dOr, dAndV, dOrV, dNotV, dIf, dChain, bOf, vw, vws, mem, mput, dTup, dLst, dLstM, dNil, dCons, vals, dSl, dPart, dNoPart, asI, pSl, pAdd, pSub, pMul, pNeg, pDiv, pMod, pLt, pLe, pGt, pGe, pInt, pIntC, pEq, pNe, pIx, pIsN, pIsNotN, pIsB, pIsNotB, pIn, pNotIn, isNone, dB, pLen, pTupleOf, pListOf, pItems, dBM, dMl, onL, pAppend, pExtend, pPopAt, dFz, asV, gSubL, dIs, isK, dRaise, dMkX, pTru, DV.is, DV.within, dIt, items, dR1, dR2, rangeD, dFor, dForT, dLc, dLcM, wipeD, dYes, dCall, refsOf, inn, back, wb, outn, List.map_cons, List.map_nil, List.length_cons, List.length_nil, List.cons_append, List.nil_append, List.append_nil, List.drop_nil, List.take_nil, List.drop_zero, true_and, and_true, if_true, ite_true, forall_const, Bool.not_true, Bool.not_false, Bool.false_eq_true, if_false, shp_int, shp_none, shp_bool, shp_nil, eqv_int, eqv_list_nil, atI_last, atI_0, atI_1, atI_2, atI_3, map_val_int, Int.reduceNeg, atI_map, pMax, pMin, pSum, pAll, pAny, pToInt, pAbs, exists_eq_left', exists_eq_left, Option.some.injEq, isEmpty_snoc, cutD_init, List.contains_nil, List.drop_succ_cons, List.take_succ_cons, sl, Nat.reduceAdd, Nat.reduceLeDiff, Nat.reduceLT, Int.reduceLT, Int.reduceLE, Int.reduceAdd, Int.reduceSub, Int.reduceMul, Int.reduceEq, eq_self, Nat.zero_add, decide_true, decide_false]
    refine all_true (fun d hd => ?_) ?_
    · obtain ⟨_, _, rfl⟩ := List.mem_map.mp hd; rfl
    · have : (((List.range (sealD x).length).map fun _ => PyData.bool true).map fun _ => true).all id = true := by
        rw [List.all_eq_true]
        intro b hb
        obtain ⟨_, _, rfl⟩ := List.mem_map.mp hb; rfl
      simp only [this, dSeq, dAsg, dRet, dRetN, dIfS, dDrop, dPar, dAug, dNext, dBreak, dCont, gN, gT, gs0_nil, gsC_cons, put, slot, dVar, dC, dOp2, dOp1, dTest, asB, dTruth, dNot, dAnd, dOr, dAndV, dOrV, dNotV, dIf, dChain, bOf, vw, vws, mem, mput, dTup, dLst, dLstM, dNil, dCons, vals, dSl, dPart, dNoPart, asI, pSl, pAdd, pSub, pMul, pNeg, pDiv, pMod, pLt, pLe, pGt, pGe, pInt, pIntC, pEq, pNe, pIx, pIsN, pIsNotN, pIsB, pIsNotB, pIn, pNotIn, isNone, dB, pLen, pTupleOf, pListOf, pItems, dBM, dMl, onL, pAppend, pExtend, pPopAt, dFz, asV, gSubL, dIs, isK, dRaise, dMkX, pTru, DV.is, DV.within, dIt, items, dR1, dR2, rangeD, dFor, dForT, dLc, dLcM, wipeD, dYes, dCall, refsOf, inn, back, wb, outn, List.map_cons, List.map_nil, List.length_cons, List.length_nil, List.cons_append, List.nil_append, List.append_nil, List.drop_nil, List.take_nil, List.drop_zero, true_and, and_true, if_true, ite_true, forall_const, Bool.not_true, Bool.not_false, Bool.false_eq_true, if_false, shp_int, shp_none, shp_bool, shp_nil, eqv_int, eqv_list_nil, atI_last, atI_0, atI_1, atI_2, atI_3, map_val_int, Int.reduceNeg, atI_map, pMax, pMin, pSum, pAll, pAny, pToInt, pAbs, exists_eq_left', exists_eq_left, Option.some.injEq, isEmpty_snoc, cutD_init, List.contains_nil, List.drop_succ_cons, List.take_succ_cons, sl, Nat.reduceAdd, Nat.reduceLeDiff, Nat.reduceLT, Int.reduceLT, Int.reduceLE, Int.reduceAdd, Int.reduceSub, Int.reduceMul, Int.reduceEq, eq_self, Nat.zero_add, decide_true, decide_false, List.length_map]
      rw [intL_cons1, intL_app, intL_app]
      refine ⟨by omega, ?_⟩
      obtain ⟨b, hbb⟩ := more_refused hx (e := [byte]) (by simp) (by simp)
      refine spec__law_refused _ (rng_app R (rng_one hb)) (by simp; omega) hbb ?_
      simp only [dSeq, dAsg, dRet, dRetN, dIfS, dDrop, dPar, dAug, dNext, dBreak, dCont, gN, gT, gs0_nil, gsC_cons, put, slot, dVar, dC, dOp2, dOp1, dTest, asB, dTruth, dNot, dAnd, dOr, dAndV, dOrV, dNotV, dIf, dChain, bOf, vw, vws, mem, mput, dTup, dLst, dLstM, dNil, dCons, vals, dSl, dPart, dNoPart, asI, pSl, pAdd, pSub, pMul, pNeg, pDiv, pMod, pLt, pLe, pGt, pGe, pInt, pIntC, pEq, pNe, pIx, pIsN, pIsNotN, pIsB, pIsNotB, pIn, pNotIn, isNone, dB, pLen, pTupleOf, pListOf, pItems, dBM, dMl, onL, pAppend, pExtend, pPopAt, dFz, asV, gSubL, dIs, isK, dRaise, dMkX, pTru, DV.is, DV.within, dIt, items, dR1, dR2, rangeD, dFor, dForT, dLc, dLcM, wipeD, dYes, dCall, refsOf, inn, back, wb, outn, List.map_cons, List.map_nil, List.length_cons, List.length_nil, List.cons_append, List.nil_append, List.append_nil, List.drop_nil, List.take_nil, List.drop_zero, true_and, and_true, if_true, ite_true, forall_const, Bool.not_true, Bool.not_false, Bool.false_eq_true, if_false, shp_int, shp_none, shp_bool, shp_nil, eqv_int, eqv_list_nil, atI_last, atI_0, atI_1, atI_2, atI_3, map_val_int, Int.reduceNeg, atI_map, pMax, pMin, pSum, pAll, pAny, pToInt, pAbs, exists_eq_left', exists_eq_left, Option.some.injEq, isEmpty_snoc, cutD_init, List.contains_nil, List.drop_succ_cons, List.take_succ_cons, sl, Nat.reduceAdd, Nat.reduceLeDiff, Nat.reduceLT, Int.reduceLT, Int.reduceLE, Int.reduceAdd, Int.reduceSub, Int.reduceMul, Int.reduceEq, eq_self, Nat.zero_add, decide_true, decide_false, List.length_map]
      refine ⟨by omega, ?_⟩
      obtain ⟨b, hbb⟩ := more_refused hx (e := sealD x) (fun z => by have := congrArg List.length z; rw [List.length_nil] at this; omega) (by omega)
      refine spec__law_refused _ (rng_app R R) (by simp; omega) hbb ?_
      simp only [dSeq, dAsg, dRet, dRetN, dIfS, dDrop, dPar, dAug, dNext, dBreak, dCont, gN, gT, gs0_nil, gsC_cons, put, slot, dVar, dC, dOp2, dOp1, dTest, asB, dTruth, dNot, dAnd, dOr, dAndV, dOrV, dNotV, dIf, dChain, bOf, vw, vws, mem, mput, dTup, dLst, dLstM, dNil, dCons, vals, dSl, dPart, dNoPart, asI, pSl, pAdd, pSub, pMul, pNeg, pDiv, pMod, pLt, pLe, pGt, pGe, pInt, pIntC, pEq, pNe, pIx, pIsN, pIsNotN, pIsB, pIsNotB, pIn, pNotIn, isNone, dB, pLen, pTupleOf, pListOf, pItems, dBM, dMl, onL, pAppend, pExtend, pPopAt, dFz, asV, gSubL, dIs, isK, dRaise, dMkX, pTru, DV.is, DV.within, dIt, items, dR1, dR2, rangeD, dFor, dForT, dLc, dLcM, wipeD, dYes, dCall, refsOf, inn, back, wb, outn, List.map_cons, List.map_nil, List.length_cons, List.length_nil, List.cons_append, List.nil_append, List.append_nil, List.drop_nil, List.take_nil, List.drop_zero, true_and, and_true, if_true, ite_true, forall_const, Bool.not_true, Bool.not_false, Bool.false_eq_true, if_false, shp_int, shp_none, shp_bool, shp_nil, eqv_int, eqv_list_nil, atI_last, atI_0, atI_1, atI_2, atI_3, map_val_int, Int.reduceNeg, atI_map, pMax, pMin, pSum, pAll, pAny, pToInt, pAbs, exists_eq_left', exists_eq_left, Option.some.injEq, isEmpty_snoc, cutD_init, List.contains_nil, List.drop_succ_cons, List.take_succ_cons, sl, Nat.reduceAdd, Nat.reduceLeDiff, Nat.reduceLT, Int.reduceLT, Int.reduceLE, Int.reduceAdd, Int.reduceSub, Int.reduceMul, Int.reduceEq, eq_self, Nat.zero_add, decide_true, decide_false]
      exact k18_r3 hx hr fun s8 s17 s18 s19 => q _ _ _ _ _
theorem k18_r7 {byte : Int} (hb : 0 ≤ byte ∧ byte < 256) {s0 s2 s3 s4 s5 s6 s7 s8 s10 s11 s12 s13 s14 s16 s17 s18 s19 : DV}
    (q : ∀ s8 s9 s16 s17 s18 s19, D.nx [s0, .ref 0, s2, s3, s4, s5, s6, s7, s8, s9, s10, s11, s12, s13, s14, .val (.tuple (intL x)), s16, s17, s18, s19] Bx) :
    r_law_7 C D [s0, .ref 0, s2, s3, s4, s5, s6, s7, s8, .val (.int byte), s10, s11, s12, s13, s14, .val (.tuple (intL x)), s16, s17, s18, s19] Bx := by
  have S := sealD_small hx
  simp only [r_law_7, dSeq, dAsg, dRet, dRetN, dIfS, dDrop, dPar, dAug, dNext, dBreak, dCont, gN, gT, gs0_nil, gsC_cons, put, slot, dVar, dC, dOp2, dOp1, dTest, asB, dTruth, dNot, dAnd, dOr, dAndV, dOrV, dNotV, dIf, dChain, bOf, vw, vws, mem, mput, dTup, dLst, dLstM, dNil, dCons, vals, dSl, dPart, dNoPart, asI, pSl, pAdd, pSub, pMul, pNeg, pDiv, pMod, pLt, pLe, pGt, pGe, pInt, pIntC, pEq, pNe, pIx, pIsN, pIsNotN, pIsB, pIsNotB, pIn, pNotIn, isNone, dB, pLen, pTupleOf, pListOf, pItems, dBM, dMl, onL, pAppend, pExtend, pPopAt, dFz, asV, gSubL, dIs, isK, dRaise, dMkX, pTru, DV.is, DV.within, dIt, items, dR1, dR2, rangeD, dFor, dForT, dLc, dLcM, wipeD, dYes, dCall, refsOf, inn, back, wb, outn, List.map_cons, List.map_nil, List.length_cons, List.length_nil, List.cons_append, List.nil_append, List.append_nil, List.drop_nil, List.take_nil, List.drop_zero, true_and, and_true, if_true, ite_true, forall_const, Bool.not_true, Bool.not_false, Bool.false_eq_true, if_false, shp_int, shp_none, shp_bool, shp_nil, eqv_int, eqv_list_nil, atI_last, atI_0, atI_1, atI_2, atI_3, map_val_int, Int.reduceNeg, atI_map, pMax, pMin, pSum, pAll, pAny, pToInt, pAbs, exists_eq_left', exists_eq_left, Option.some.injEq, isEmpty_snoc, cutD_init, List.contains_nil, List.drop_succ_cons, List.take_succ_cons, sl, Nat.reduceAdd, Nat.reduceLeDiff, Nat.reduceLT, Int.reduceLT, Int.reduceLE, Int.reduceAdd, Int.reduceSub, Int.reduceMul, Int.reduceEq, eq_self, Nat.zero_add, decide_true, decide_false]
  refine spec__law_seal x _ (.inr rfl) (by omega) ?_
  simp only [r_law_6, dSeq, dAsg, dRet, dRetN, dIfS, dDrop, dPar, dAug, dNext, dBreak, dCont, gN, gT, gs0_nil, gsC_cons, put, slot, dVar, dC, dOp2, dOp1, dTest, asB, dTruth, dNot, dAnd, dOr, dAndV, dOrV, dNotV, dIf, dChain, bOf, vw, vws, mem, mput, dTup, dLst, dLstM, dNil, dCons, vals, dSl, dPart, dNoPart, asI, pSl, pAdd, pSub, pMul, pNeg, pDiv, pMod, pLt, pLe, pGt, pGe, pInt, pIntC, pEq, pNe, pIx, pIsN, pIsNotN, pIsB, pIsNotB, pIn, pNotIn, isNone, dB, pLen, pTupleOf, pListOf, pItems, dBM, dMl, onL, pAppend, pExtend, pPopAt, dFz, asV, gSubL, dIs, isK, dRaise, dMkX, pTru, DV.is, DV.within, dIt, items, dR1, dR2, rangeD, dFor, dForT, dLc, dLcM, wipeD, dYes, dCall, refsOf, inn, back, wb, outn, List.map_cons, List.map_nil, List.length_cons, List.length_nil, List.cons_append, List.nil_append, List.append_nil, List.drop_nil, List.take_nil, List.drop_zero, true_and, and_true, if_true, ite_true, forall_const, Bool.not_true, Bool.not_false, Bool.false_eq_true, if_false, shp_int, shp_none, shp_bool, shp_nil, eqv_int, eqv_list_nil, atI_last, atI_0, atI_1, atI_2, atI_3, map_val_int, Int.reduceNeg, atI_map, pMax, pMin, pSum, pAll, pAny, pToInt, pAbs, exists_eq_left', exists_eq_left, Option.some.injEq, isEmpty_snoc, cutD_init, List.contains_nil, List.drop_succ_cons, List.take_succ_cons, sl, Nat.reduceAdd, Nat.reduceLeDiff, Nat.reduceLT, Int.reduceLT, Int.reduceLE, Int.reduceAdd, Int.reduceSub, Int.reduceMul, Int.reduceEq, eq_self, Nat.zero_add, decide_true, decide_false]
  refine spec_check_of x _ (.inr rfl) ?_
  simp only [dSeq, dAsg, dRet, dRetN, dIfS, dDrop, dPar, dAug, dNext, dBreak, dCont, gN, gT, gs0_nil, gsC_cons, put, slot, dVar, dC, dOp2, dOp1, dTest, asB, dTruth, dNot, dAnd, dOr, dAndV, dOrV, dNotV, dIf, dChain, bOf, vw, vws, mem, mput, dTup, dLst, dLstM, dNil, dCons, vals, dSl, dPart, dNoPart, asI, pSl, pAdd, pSub, pMul, pNeg, pDiv, pMod, pLt, pLe, pGt, pGe, pInt, pIntC, pEq, pNe, pIx, pIsN, pIsNotN, pIsB, pIsNotB, pIn, pNotIn, isNone, dB, pLen, pTupleOf, pListOf, pItems, dBM, dMl, onL, pAppend, pExtend, pPopAt, dFz, asV, gSubL, dIs, isK, dRaise, dMkX, pTru, DV.is, DV.within, dIt, items, dR1, dR2, rangeD, dFor, dForT, dLc, dLcM, wipeD, dYes, dCall, refsOf, inn, back, wb, outn, List.map_cons, List.map_nil, List.length_cons, List.length_nil, List.cons_append, List.nil_append, List.append_nil, List.drop_nil, List.take_nil, List.drop_zero, true_and, and_true, if_true, ite_true, forall_const, Bool.not_true, Bool.not_false, Bool.false_eq_true, if_false, shp_int, shp_none, shp_bool, shp_nil, eqv_int, eqv_list_nil, atI_last, atI_0, atI_1, atI_2, atI_3, map_val_int, Int.reduceNeg, atI_map, pMax, pMin, pSum, pAll, pAny, pToInt, pAbs, exists_eq_left', exists_eq_left, Option.some.injEq, isEmpty_snoc, cutD_init, List.contains_nil, List.drop_succ_cons, List.take_succ_cons, sl, Nat.reduceAdd, Nat.reduceLeDiff, Nat.reduceLT, Int.reduceLT, Int.reduceLE, Int.reduceAdd, Int.reduceSub, Int.reduceMul, Int.reduceEq, eq_self, Nat.zero_add, decide_true, decide_false]
  refine spec_sealed x _ (.inr rfl) (by omega) ?_
  simp only [dSeq, dAsg, dRet, dRetN, dIfS, dDrop, dPar, dAug, dNext, dBreak, dCont, gN, gT, gs0_nil, gsC_cons, put, slot, dVar, dC, dOp2, dOp1, dTest, asB, dTruth, dNot, dAnd, dOr, dAndV, dOrV, dNotV, dIf, dChain, bOf, vw, vws, mem, mput, dTup, dLst, dLstM, dNil, dCons, vals, dSl, dPart, dNoPart, asI, pSl, pAdd, pSub, pMul, pNeg, pDiv, pMod, pLt, pLe, pGt, pGe, pInt, pIntC, pEq, pNe, pIx, pIsN, pIsNotN, pIsB, pIsNotB, pIn, pNotIn, isNone, dB, pLen, pTupleOf, pListOf, pItems, dBM, dMl, onL, pAppend, pExtend, pPopAt, dFz, asV, gSubL, dIs, isK, dRaise, dMkX, pTru, DV.is, DV.within, dIt, items, dR1, dR2, rangeD, dFor, dForT, dLc, dLcM, wipeD, dYes, dCall, refsOf, inn, back, wb, outn, List.map_cons, List.map_nil, List.length_cons, List.length_nil, List.cons_append, List.nil_append, List.append_nil, List.drop_nil, List.take_nil, List.drop_zero, true_and, and_true, if_true, ite_true, forall_const, Bool.not_true, Bool.not_false, Bool.false_eq_true, if_false, shp_int, shp_none, shp_bool, shp_nil, eqv_int, eqv_list_nil, atI_last, atI_0, atI_1, atI_2, atI_3, map_val_int, Int.reduceNeg, atI_map, pMax, pMin, pSum, pAll, pAny, pToInt, pAbs, exists_eq_left', exists_eq_left, Option.some.injEq, isEmpty_snoc, cutD_init, List.contains_nil, List.drop_succ_cons, List.take_succ_cons, sl, Nat.reduceAdd, Nat.reduceLeDiff, Nat.reduceLT, Int.reduceLT, Int.reduceLE, Int.reduceAdd, Int.reduceSub, Int.reduceMul, Int.reduceEq, eq_self, Nat.zero_add, decide_true, decide_false]
  refine spec__law_opened _ (sealD_range hx hr) (by omega) ?_
  rw [opened_trip x (Nat.lt_of_lt_of_le hx (by decide))]
  simp only [outO, dSeq, dAsg, dRet, dRetN, dIfS, dDrop, dPar, dAug, dNext, dBreak, dCont, gN, gT, gs0_nil, gsC_cons, put, slot, dVar, dC, dOp2, dOp1, dTest, asB, dTruth, dNot, dAnd, dOr, dAndV, dOrV, dNotV, dIf, dChain, bOf, vw, vws, mem, mput, dTup, dLst, dLstM, dNil, dCons, vals, dSl, dPart, dNoPart, asI, pSl, pAdd, pSub, pMul, pNeg, pDiv, pMod, pLt, pLe, pGt, pGe, pInt, pIntC, pEq, pNe, pIx, pIsN, pIsNotN, pIsB, pIsNotB, pIn, pNotIn, isNone, dB, pLen, pTupleOf, pListOf, pItems, dBM, dMl, onL, pAppend, pExtend, pPopAt, dFz, asV, gSubL, dIs, isK, dRaise, dMkX, pTru, DV.is, DV.within, dIt, items, dR1, dR2, rangeD, dFor, dForT, dLc, dLcM, wipeD, dYes, dCall, refsOf, inn, back, wb, outn, List.map_cons, List.map_nil, List.length_cons, List.length_nil, List.cons_append, List.nil_append, List.append_nil, List.drop_nil, List.take_nil, List.drop_zero, true_and, and_true, if_true, ite_true, forall_const, Bool.not_true, Bool.not_false, Bool.false_eq_true, if_false, shp_int, shp_none, shp_bool, shp_nil, eqv_int, eqv_list_nil, atI_last, atI_0, atI_1, atI_2, atI_3, map_val_int, Int.reduceNeg, atI_map, pMax, pMin, pSum, pAll, pAny, pToInt, pAbs, exists_eq_left', exists_eq_left, Option.some.injEq, isEmpty_snoc, cutD_init, List.contains_nil, List.drop_succ_cons, List.take_succ_cons, sl, Nat.reduceAdd, Nat.reduceLeDiff, Nat.reduceLT, Int.reduceLT, Int.reduceLE, Int.reduceAdd, Int.reduceSub, Int.reduceMul, Int.reduceEq, eq_self, Nat.zero_add, decide_true, decide_false]
  refine spec__law_check x _ (.inr rfl) ?_
  simp only [dSeq, dAsg, dRet, dRetN, dIfS, dDrop, dPar, dAug, dNext, dBreak, dCont, gN, gT, gs0_nil, gsC_cons, put, slot, dVar, dC, dOp2, dOp1, dTest, asB, dTruth, dNot, dAnd, dOr, dAndV, dOrV, dNotV, dIf, dChain, bOf, vw, vws, mem, mput, dTup, dLst, dLstM, dNil, dCons, vals, dSl, dPart, dNoPart, asI, pSl, pAdd, pSub, pMul, pNeg, pDiv, pMod, pLt, pLe, pGt, pGe, pInt, pIntC, pEq, pNe, pIx, pIsN, pIsNotN, pIsB, pIsNotB, pIn, pNotIn, isNone, dB, pLen, pTupleOf, pListOf, pItems, dBM, dMl, onL, pAppend, pExtend, pPopAt, dFz, asV, gSubL, dIs, isK, dRaise, dMkX, pTru, DV.is, DV.within, dIt, items, dR1, dR2, rangeD, dFor, dForT, dLc, dLcM, wipeD, dYes, dCall, refsOf, inn, back, wb, outn, List.map_cons, List.map_nil, List.length_cons, List.length_nil, List.cons_append, List.nil_append, List.append_nil, List.drop_nil, List.take_nil, List.drop_zero, true_and, and_true, if_true, ite_true, forall_const, Bool.not_true, Bool.not_false, Bool.false_eq_true, if_false, shp_int, shp_none, shp_bool, shp_nil, eqv_int, eqv_list_nil, atI_last, atI_0, atI_1, atI_2, atI_3, map_val_int, Int.reduceNeg, atI_map, pMax, pMin, pSum, pAll, pAny, pToInt, pAbs, exists_eq_left', exists_eq_left, Option.some.injEq, isEmpty_snoc, cutD_init, List.contains_nil, List.drop_succ_cons, List.take_succ_cons, sl, Nat.reduceAdd, Nat.reduceLeDiff, Nat.reduceLT, Int.reduceLT, Int.reduceLE, Int.reduceAdd, Int.reduceSub, Int.reduceMul, Int.reduceEq, eq_self, Nat.zero_add, decide_true, decide_false]
  refine same_of (n := 5) ?_ (by decide) ?_
  · exact (sh_triple (n := 3) (sh_int _) ((sh_intT _).mono (by decide)) ((sh_pair (n := 1) (sh_intT _) sh_none).mono (by decide))).mono (by decide)
  · simp only [dSeq, dAsg, dRet, dRetN, dIfS, dDrop, dPar, dAug, dNext, dBreak, dCont, gN, gT, gs0_nil, gsC_cons, put, slot, dVar, dC, dOp2, dOp1, dTest, asB, dTruth, dNot, dAnd, dOr, dAndV, dOrV, dNotV, dIf, dChain, bOf, vw, vws, mem, mput, dTup, dLst, dLstM, dNil, dCons, vals, dSl, dPart, dNoPart, asI, pSl, pAdd, pSub, pMul, pNeg, pDiv, pMod, pLt, pLe, pGt, pGe, pInt, pIntC, pEq, pNe, pIx, pIsN, pIsNotN, pIsB, pIsNotB, pIn, pNotIn, isNone, dB, pLen, pTupleOf, pListOf, pItems, dBM, dMl, onL, pAppend, pExtend, pPopAt, dFz, asV, gSubL, dIs, isK, dRaise, dMkX, pTru, DV.is, DV.within, dIt, items, dR1, dR2, rangeD, dFor, dForT, dLc, dLcM, wipeD, dYes, dCall, refsOf, inn, back, wb, outn, List.map_cons, List.map_nil, List.length_cons, List.length_nil, List.cons_append, List.nil_append, List.append_nil, List.drop_nil, List.take_nil, List.drop_zero, true_and, and_true, if_true, ite_true, forall_const, Bool.not_true, Bool.not_false, Bool.false_eq_true, if_false, shp_int, shp_none, shp_bool, shp_nil, eqv_int, eqv_list_nil, atI_last, atI_0, atI_1, atI_2, atI_3, map_val_int, Int.reduceNeg, atI_map, pMax, pMin, pSum, pAll, pAny, pToInt, pAbs, exists_eq_left', exists_eq_left, Option.some.injEq, isEmpty_snoc, cutD_init, List.contains_nil, List.drop_succ_cons, List.take_succ_cons, sl, Nat.reduceAdd, Nat.reduceLeDiff, Nat.reduceLT, Int.reduceLT, Int.reduceLE, Int.reduceAdd, Int.reduceSub, Int.reduceMul, Int.reduceEq, eq_self, Nat.zero_add, decide_true, decide_false]
    exact k18_r5 hx hr hb fun s8 s9 s17 s18 s19 => q _ _ _ _ _ _
end
theorem rng_flat {a : List Int} (ha : ∀ x ∈ a, 0 ≤ x ∧ x < 256) (n : Nat) : ∀ x ∈ (List.replicate n a).flatten, 0 ≤ x ∧ x < 256 := fun x hx => by
  obtain ⟨l, hl, hx⟩ := List.mem_flatten.mp hx
  rw [List.eq_of_mem_replicate hl] at hx
  exact ha x hx
theorem intL_flat (a : List Int) (n : Nat) : (List.replicate n (intL a)).flatten = intL (List.replicate n a).flatten := by
  induction n with
  | zero => rfl
  | succ n ih => rw [List.replicate_succ, List.flatten_cons, ih, List.replicate_succ, List.flatten_cons]; exact List.map_append.symm
theorem len_flat {α : Type} (a : List α) (n : Nat) : (List.replicate n a).flatten.length = n * a.length := by
  induction n with
  | zero => simp
  | succ n ih => rw [List.replicate_succ, List.flatten_cons, List.length_append, ih, Nat.succ_mul]; omega
section
variable {C : Str → Addr} {D : DEn} {C' : Mem → Prop}
theorem k18_r8 {x : List Int} (hx : x.length < 15) (hr : ∀ b ∈ x, 0 ≤ b ∧ b < 256) {byte : Int} (hb : 0 ≤ byte ∧ byte < 256) {t : Int} {s0 s3 s4 s5 s6 s7 s8 s10 s11 s12 s13 s14 s16 s17 s18 s19 : DV}
    (q : ∀ s8 s9 s15 s16 s17 s18 s19, D.nx [s0, .ref 0, .val (.int t), s3, s4, s5, s6, s7, s8, s9, s10, s11, s12, s13, s14, s15, s16, s17, s18, s19] Bx) :
    r_law_8 C D [s0, .ref 0, .val (.int t), s3, s4, s5, s6, s7, s8, .val (.int byte), s10, s11, s12, s13, s14, .val (.tuple (intL x)), s16, s17, s18, s19] Bx := by
  simp only [r_law_8, dSeq, dAsg, dRet, dRetN, dIfS, dDrop, dPar, dAug, dNext, dBreak, dCont, gN, gT, gs0_nil, gsC_cons, put, slot, dVar, dC, dOp2, dOp1, dTest, asB, dTruth, dNot, dAnd, dOr, dAndV, dOrV, dNotV, dIf, dChain, bOf, vw, vws, mem, mput, dTup, dLst, dLstM, dNil, dCons, vals, dSl, dPart, dNoPart, asI, pSl, pAdd, pSub, pMul, pNeg, pDiv, pMod, pLt, pLe, pGt, pGe, pInt, pIntC, pEq, pNe, pIx, pIsN, pIsNotN, pIsB, pIsNotB, pIn, pNotIn, isNone, dB, pLen, pTupleOf, pListOf, pItems, dBM, dMl, onL, pAppend, pExtend, pPopAt, dFz, asV, gSubL, dIs, isK, dRaise, dMkX, pTru, DV.is, DV.within, dIt, items, dR1, dR2, rangeD, dFor, dForT, dLc, dLcM, wipeD, dYes, dCall, refsOf, inn, back, wb, outn, List.map_cons, List.map_nil, List.length_cons, List.length_nil, List.cons_append, List.nil_append, List.append_nil, List.drop_nil, List.take_nil, List.drop_zero, true_and, and_true, if_true, ite_true, forall_const, Bool.not_true, Bool.not_false, Bool.false_eq_true, if_false, shp_int, shp_none, shp_bool, shp_nil, eqv_int, eqv_list_nil, atI_last, atI_0, atI_1, atI_2, atI_3, map_val_int, Int.reduceNeg, atI_map, pMax, pMin, pSum, pAll, pAny, pToInt, pAbs, exists_eq_left', exists_eq_left, Option.some.injEq, isEmpty_snoc, cutD_init, List.contains_nil, List.drop_succ_cons, List.take_succ_cons, sl, Nat.reduceAdd, Nat.reduceLeDiff, Nat.reduceLT, Int.reduceLT, Int.reduceLE, Int.reduceAdd, Int.reduceSub, Int.reduceMul, Int.reduceEq, eq_self, Nat.zero_add, decide_true, decide_false]
  by_cases h : t = 0
  · rw [if_pos (decide_eq_true h)]
    refine draw_box 2 (by decide) (by decide) rfl rfl fun d d0 d1 => ?_
    simp only [dSeq, dAsg, dRet, dRetN, dIfS, dDrop, dPar, dAug, dNext, dBreak, dCont, gN, gT, gs0_nil, gsC_cons, put, slot, dVar, dC, dOp2, dOp1, dTest, asB, dTruth, dNot, dAnd, dOr, dAndV, dOrV, dNotV, dIf, dChain, bOf, vw, vws, mem, mput, dTup, dLst, dLstM, dNil, dCons, vals, dSl, dPart, dNoPart, asI, pSl, pAdd, pSub, pMul, pNeg, pDiv, pMod, pLt, pLe, pGt, pGe, pInt, pIntC, pEq, pNe, pIx, pIsN, pIsNotN, pIsB, pIsNotB, pIn, pNotIn, isNone, dB, pLen, pTupleOf, pListOf, pItems, dBM, dMl, onL, pAppend, pExtend, pPopAt, dFz, asV, gSubL, dIs, isK, dRaise, dMkX, pTru, DV.is, DV.within, dIt, items, dR1, dR2, rangeD, dFor, dForT, dLc, dLcM, wipeD, dYes, dCall, refsOf, inn, back, wb, outn, List.map_cons, List.map_nil, List.length_cons, List.length_nil, List.cons_append, List.nil_append, List.append_nil, List.drop_nil, List.take_nil, List.drop_zero, true_and, and_true, if_true, ite_true, forall_const, Bool.not_true, Bool.not_false, Bool.false_eq_true, if_false, shp_int, shp_none, shp_bool, shp_nil, eqv_int, eqv_list_nil, atI_last, atI_0, atI_1, atI_2, atI_3, map_val_int, Int.reduceNeg, atI_map, pMax, pMin, pSum, pAll, pAny, pToInt, pAbs, exists_eq_left', exists_eq_left, Option.some.injEq, isEmpty_snoc, cutD_init, List.contains_nil, List.drop_succ_cons, List.take_succ_cons, sl, Nat.reduceAdd, Nat.reduceLeDiff, Nat.reduceLT, Int.reduceLT, Int.reduceLE, Int.reduceAdd, Int.reduceSub, Int.reduceMul, Int.reduceEq, eq_self, Nat.zero_add, decide_true, decide_false]
    refine ⟨cmul_l (by decide) (by decide), by omega, by omega, ?_, ?_⟩
    · by_cases hd : d = 0
      · exact .inr (.inl (by omega))
      · exact .inr (.inr ⟨by omega, by omega, by simp; omega⟩)
    · rw [intL_flat]
      have hl := len_flat x (1 + 14 * d).toNat
      have hd : (1 + 14 * d).toNat ≤ 15 := by omega
      have := Nat.mul_le_mul hd (Nat.le_of_lt_succ hx)
      exact k18_r7 (x := (List.replicate (1 + 14 * d).toNat x).flatten) (by omega) (rng_flat hr _) hb fun s8 s9 s16 s17 s18 s19 => q _ _ _ _ _ _ _
  · rw [if_neg (by simpa using h)]
    exact k18_r7 (by omega) hr hb fun s8 s9 s16 s17 s18 s19 => q _ _ _ _ _ _ _
theorem at3 {i : Int} (h0 : 0 ≤ i) (h : i < 3) (a b c : Int) : ∃ v, atI [PyData.int a, .int b, .int c] i = some (.int v) ∧ (v = a ∨ v = b ∨ v = c) := by
  have : i = 0 ∨ i = 1 ∨ i = 2 := by omega
  rcases this with rfl | rfl | rfl
  · exact ⟨a, atI_0 _ _, .inl rfl⟩
  · exact ⟨b, atI_1 _ _ _, .inr (.inl rfl)⟩
  · exact ⟨c, atI_2 _ _ _ _, .inr (.inr rfl)⟩
theorem at4 {i : Int} (h0 : 0 ≤ i) (h : i < 4) (a b c d : Int) : ∃ v, atI [PyData.int a, .int b, .int c, .int d] i = some (.int v) ∧ (v = a ∨ v = b ∨ v = c ∨ v = d) := by
  have : i = 0 ∨ i = 1 ∨ i = 2 ∨ i = 3 := by omega
  rcases this with rfl | rfl | rfl | rfl
  · exact ⟨a, atI_0 _ _, .inl rfl⟩
  · exact ⟨b, atI_1 _ _ _, .inr (.inl rfl)⟩
  · exact ⟨c, atI_2 _ _ _ _, .inr (.inr (.inl rfl))⟩
  · exact ⟨d, atI_3 _ _ _ _ _, .inr (.inr (.inr rfl))⟩
theorem all2_intsP {α : Type} {P : Int → Prop} : ∀ {is : List α} {ds : List PyData}, All2 (fun _ d => ∃ v, d = .int v ∧ P v) is ds → ∃ vs : List Int, ds = intL vs ∧ vs.length = is.length ∧ ∀ v ∈ vs, P v
  | _, _, .nil => ⟨[], rfl, rfl, fun v hv => by cases hv⟩
  | _, _, .cons ⟨v, e, p⟩ r => by
    obtain ⟨vs, e2, l, q⟩ := all2_intsP r
    refine ⟨v :: vs, by rw [e, e2]; rfl, by simp [l], fun w hw => ?_⟩
    rcases List.mem_cons.mp hw with z | hw
    · subst z; exact p
    · exact q w hw
theorem k18_r9 {byte : Int} (hb : 0 ≤ byte ∧ byte < 256) {t : Int} (ht : 0 ≤ t) {s0 s3 s4 s5 s6 s7 s8 s10 s11 s12 s13 s14 s15 s16 s17 s18 s19 : DV}
    (q : ∀ s8 s9 s15 s16 s17 s18 s19, D.nx [s0, .ref 0, .val (.int t), s3, s4, s5, s6, s7, s8, s9, s10, s11, s12, s13, s14, s15, s16, s17, s18, s19] Bx) :
    r_law_9 C D [s0, .ref 0, .val (.int t), s3, s4, s5, s6, s7, s8, .val (.int byte), s10, s11, s12, s13, s14, s15, s16, s17, s18, s19] Bx := by
  simp only [r_law_9, dSeq, dAsg, dRet, dRetN, dIfS, dDrop, dPar, dAug, dNext, dBreak, dCont, gN, gT, gs0_nil, gsC_cons, put, slot, dVar, dC, dOp2, dOp1, dTest, asB, dTruth, dNot, dAnd, dOr, dAndV, dOrV, dNotV, dIf, dChain, bOf, vw, vws, mem, mput, dTup, dLst, dLstM, dNil, dCons, vals, dSl, dPart, dNoPart, asI, pSl, pAdd, pSub, pMul, pNeg, pDiv, pMod, pLt, pLe, pGt, pGe, pInt, pIntC, pEq, pNe, pIx, pIsN, pIsNotN, pIsB, pIsNotB, pIn, pNotIn, isNone, dB, pLen, pTupleOf, pListOf, pItems, dBM, dMl, onL, pAppend, pExtend, pPopAt, dFz, asV, gSubL, dIs, isK, dRaise, dMkX, pTru, DV.is, DV.within, dIt, items, dR1, dR2, rangeD, dFor, dForT, dLc, dLcM, wipeD, dYes, dCall, refsOf, inn, back, wb, outn, List.map_cons, List.map_nil, List.length_cons, List.length_nil, List.cons_append, List.nil_append, List.append_nil, List.drop_nil, List.take_nil, List.drop_zero, true_and, and_true, if_true, ite_true, forall_const, Bool.not_true, Bool.not_false, Bool.false_eq_true, if_false, shp_int, shp_none, shp_bool, shp_nil, eqv_int, eqv_list_nil, atI_last, atI_0, atI_1, atI_2, atI_3, map_val_int, Int.reduceNeg, atI_map, pMax, pMin, pSum, pAll, pAny, pToInt, pAbs, exists_eq_left', exists_eq_left, Option.some.injEq, isEmpty_snoc, cutD_init, List.contains_nil, List.drop_succ_cons, List.take_succ_cons, sl, Nat.reduceAdd, Nat.reduceLeDiff, Nat.reduceLT, Int.reduceLT, Int.reduceLE, Int.reduceAdd, Int.reduceSub, Int.reduceMul, Int.reduceEq, eq_self, Nat.zero_add, decide_true, decide_false]
  refine draw_box 15 (by decide) (by decide) rfl rfl fun m m0 m1 => ?_
  simp only [dSeq, dAsg, dRet, dRetN, dIfS, dDrop, dPar, dAug, dNext, dBreak, dCont, gN, gT, gs0_nil, gsC_cons, put, slot, dVar, dC, dOp2, dOp1, dTest, asB, dTruth, dNot, dAnd, dOr, dAndV, dOrV, dNotV, dIf, dChain, bOf, vw, vws, mem, mput, dTup, dLst, dLstM, dNil, dCons, vals, dSl, dPart, dNoPart, asI, pSl, pAdd, pSub, pMul, pNeg, pDiv, pMod, pLt, pLe, pGt, pGe, pInt, pIntC, pEq, pNe, pIx, pIsN, pIsNotN, pIsB, pIsNotB, pIn, pNotIn, isNone, dB, pLen, pTupleOf, pListOf, pItems, dBM, dMl, onL, pAppend, pExtend, pPopAt, dFz, asV, gSubL, dIs, isK, dRaise, dMkX, pTru, DV.is, DV.within, dIt, items, dR1, dR2, rangeD, dFor, dForT, dLc, dLcM, wipeD, dYes, dCall, refsOf, inn, back, wb, outn, List.map_cons, List.map_nil, List.length_cons, List.length_nil, List.cons_append, List.nil_append, List.append_nil, List.drop_nil, List.take_nil, List.drop_zero, true_and, and_true, if_true, ite_true, forall_const, Bool.not_true, Bool.not_false, Bool.false_eq_true, if_false, shp_int, shp_none, shp_bool, shp_nil, eqv_int, eqv_list_nil, atI_last, atI_0, atI_1, atI_2, atI_3, map_val_int, Int.reduceNeg, atI_map, pMax, pMin, pSum, pAll, pAny, pToInt, pAbs, exists_eq_left', exists_eq_left, Option.some.injEq, isEmpty_snoc, cutD_init, List.contains_nil, List.drop_succ_cons, List.take_succ_cons, sl, Nat.reduceAdd, Nat.reduceLeDiff, Nat.reduceLT, Int.reduceLT, Int.reduceLE, Int.reduceAdd, Int.reduceSub, Int.reduceMul, Int.reduceEq, eq_self, Nat.zero_add, decide_true, decide_false]
  refine ⟨by omega, by omega, ?_⟩
  refine lcL_anyOf (P := fun _ d => ∃ v, d = .int v ∧ 0 ≤ v ∧ v < 256) (fun i : Nat => .val (.int (0 + (i : Nat)))) trivial (List.range m.toNat) [] (by rw [sl]; simp; omega) (fun i hi R R' kk => ?_) fun ds hds => ?_
  · simp only [x_law_4, dSeq, dAsg, dRet, dRetN, dIfS, dDrop, dPar, dAug, dNext, dBreak, dCont, gN, gT, gs0_nil, gsC_cons, put, slot, dVar, dC, dOp2, dOp1, dTest, asB, dTruth, dNot, dAnd, dOr, dAndV, dOrV, dNotV, dIf, dChain, bOf, vw, vws, mem, mput, dTup, dLst, dLstM, dNil, dCons, vals, dSl, dPart, dNoPart, asI, pSl, pAdd, pSub, pMul, pNeg, pDiv, pMod, pLt, pLe, pGt, pGe, pInt, pIntC, pEq, pNe, pIx, pIsN, pIsNotN, pIsB, pIsNotB, pIn, pNotIn, isNone, dB, pLen, pTupleOf, pListOf, pItems, dBM, dMl, onL, pAppend, pExtend, pPopAt, dFz, asV, gSubL, dIs, isK, dRaise, dMkX, pTru, DV.is, DV.within, dIt, items, dR1, dR2, rangeD, dFor, dForT, dLc, dLcM, wipeD, dYes, dCall, refsOf, inn, back, wb, outn, List.map_cons, List.map_nil, List.length_cons, List.length_nil, List.cons_append, List.nil_append, List.append_nil, List.drop_nil, List.take_nil, List.drop_zero, true_and, and_true, if_true, ite_true, forall_const, Bool.not_true, Bool.not_false, Bool.false_eq_true, if_false, shp_int, shp_none, shp_bool, shp_nil, eqv_int, eqv_list_nil, atI_last, atI_0, atI_1, atI_2, atI_3, map_val_int, Int.reduceNeg, atI_map, pMax, pMin, pSum, pAll, pAny, pToInt, pAbs, exists_eq_left', exists_eq_left, Option.some.injEq, isEmpty_snoc, cutD_init, List.contains_nil, List.drop_succ_cons, List.take_succ_cons, sl, Nat.reduceAdd, Nat.reduceLeDiff, Nat.reduceLT, Int.reduceLT, Int.reduceLE, Int.reduceAdd, Int.reduceSub, Int.reduceMul, Int.reduceEq, eq_self, Nat.zero_add, decide_true, decide_false]
    refine draw_box 256 (by decide) (by decide) rfl rfl fun v v0 v1 => ?_
    simp only [dSeq, dAsg, dRet, dRetN, dIfS, dDrop, dPar, dAug, dNext, dBreak, dCont, gN, gT, gs0_nil, gsC_cons, put, slot, dVar, dC, dOp2, dOp1, dTest, asB, dTruth, dNot, dAnd, dOr, dAndV, dOrV, dNotV, dIf, dChain, bOf, vw, vws, mem, mput, dTup, dLst, dLstM, dNil, dCons, vals, dSl, dPart, dNoPart, asI, pSl, pAdd, pSub, pMul, pNeg, pDiv, pMod, pLt, pLe, pGt, pGe, pInt, pIntC, pEq, pNe, pIx, pIsN, pIsNotN, pIsB, pIsNotB, pIn, pNotIn, isNone, dB, pLen, pTupleOf, pListOf, pItems, dBM, dMl, onL, pAppend, pExtend, pPopAt, dFz, asV, gSubL, dIs, isK, dRaise, dMkX, pTru, DV.is, DV.within, dIt, items, dR1, dR2, rangeD, dFor, dForT, dLc, dLcM, wipeD, dYes, dCall, refsOf, inn, back, wb, outn, List.map_cons, List.map_nil, List.length_cons, List.length_nil, List.cons_append, List.nil_append, List.append_nil, List.drop_nil, List.take_nil, List.drop_zero, true_and, and_true, if_true, ite_true, forall_const, Bool.not_true, Bool.not_false, Bool.false_eq_true, if_false, shp_int, shp_none, shp_bool, shp_nil, eqv_int, eqv_list_nil, atI_last, atI_0, atI_1, atI_2, atI_3, map_val_int, Int.reduceNeg, atI_map, pMax, pMin, pSum, pAll, pAny, pToInt, pAbs, exists_eq_left', exists_eq_left, Option.some.injEq, isEmpty_snoc, cutD_init, List.contains_nil, List.drop_succ_cons, List.take_succ_cons, sl, Nat.reduceAdd, Nat.reduceLeDiff, Nat.reduceLT, Int.reduceLT, Int.reduceLE, Int.reduceAdd, Int.reduceSub, Int.reduceMul, Int.reduceEq, eq_self, Nat.zero_add, decide_true, decide_false]
    refine draw_box 2 (by decide) (by decide) rfl rfl fun w w0 w1 => ?_
    simp only [dSeq, dAsg, dRet, dRetN, dIfS, dDrop, dPar, dAug, dNext, dBreak, dCont, gN, gT, gs0_nil, gsC_cons, put, slot, dVar, dC, dOp2, dOp1, dTest, asB, dTruth, dNot, dAnd, dOr, dAndV, dOrV, dNotV, dIf, dChain, bOf, vw, vws, mem, mput, dTup, dLst, dLstM, dNil, dCons, vals, dSl, dPart, dNoPart, asI, pSl, pAdd, pSub, pMul, pNeg, pDiv, pMod, pLt, pLe, pGt, pGe, pInt, pIntC, pEq, pNe, pIx, pIsN, pIsNotN, pIsB, pIsNotB, pIn, pNotIn, isNone, dB, pLen, pTupleOf, pListOf, pItems, dBM, dMl, onL, pAppend, pExtend, pPopAt, dFz, asV, gSubL, dIs, isK, dRaise, dMkX, pTru, DV.is, DV.within, dIt, items, dR1, dR2, rangeD, dFor, dForT, dLc, dLcM, wipeD, dYes, dCall, refsOf, inn, back, wb, outn, List.map_cons, List.map_nil, List.length_cons, List.length_nil, List.cons_append, List.nil_append, List.append_nil, List.drop_nil, List.take_nil, List.drop_zero, true_and, and_true, if_true, ite_true, forall_const, Bool.not_true, Bool.not_false, Bool.false_eq_true, if_false, shp_int, shp_none, shp_bool, shp_nil, eqv_int, eqv_list_nil, atI_last, atI_0, atI_1, atI_2, atI_3, map_val_int, Int.reduceNeg, atI_map, pMax, pMin, pSum, pAll, pAny, pToInt, pAbs, exists_eq_left', exists_eq_left, Option.some.injEq, isEmpty_snoc, cutD_init, List.contains_nil, List.drop_succ_cons, List.take_succ_cons, sl, Nat.reduceAdd, Nat.reduceLeDiff, Nat.reduceLT, Int.reduceLT, Int.reduceLE, Int.reduceAdd, Int.reduceSub, Int.reduceMul, Int.reduceEq, eq_self, Nat.zero_add, decide_true, decide_false]
    obtain ⟨z, ez, hz⟩ := at3 (i := t - t / 3 * 3) (by omega) (by omega) v 255 w
    exact ⟨cdiv_of (by decide) (by decide), cmul_r (by decide) (by decide), _, ez, kk _ ⟨z, rfl, by omega⟩⟩
  · obtain ⟨vs, rfl, e2, e3⟩ := all2_intsP hds
    simp only [dSeq, dAsg, dRet, dRetN, dIfS, dDrop, dPar, dAug, dNext, dBreak, dCont, gN, gT, gs0_nil, gsC_cons, put, slot, dVar, dC, dOp2, dOp1, dTest, asB, dTruth, dNot, dAnd, dOr, dAndV, dOrV, dNotV, dIf, dChain, bOf, vw, vws, mem, mput, dTup, dLst, dLstM, dNil, dCons, vals, dSl, dPart, dNoPart, asI, pSl, pAdd, pSub, pMul, pNeg, pDiv, pMod, pLt, pLe, pGt, pGe, pInt, pIntC, pEq, pNe, pIx, pIsN, pIsNotN, pIsB, pIsNotB, pIn, pNotIn, isNone, dB, pLen, pTupleOf, pListOf, pItems, dBM, dMl, onL, pAppend, pExtend, pPopAt, dFz, asV, gSubL, dIs, isK, dRaise, dMkX, pTru, DV.is, DV.within, dIt, items, dR1, dR2, rangeD, dFor, dForT, dLc, dLcM, wipeD, dYes, dCall, refsOf, inn, back, wb, outn, List.map_cons, List.map_nil, List.length_cons, List.length_nil, List.cons_append, List.nil_append, List.append_nil, List.drop_nil, List.take_nil, List.drop_zero, true_and, and_true, if_true, ite_true, forall_const, Bool.not_true, Bool.not_false, Bool.false_eq_true, if_false, shp_int, shp_none, shp_bool, shp_nil, eqv_int, eqv_list_nil, atI_last, atI_0, atI_1, atI_2, atI_3, map_val_int, Int.reduceNeg, atI_map, pMax, pMin, pSum, pAll, pAny, pToInt, pAbs, exists_eq_left', exists_eq_left, Option.some.injEq, isEmpty_snoc, cutD_init, List.contains_nil, List.drop_succ_cons, List.take_succ_cons, sl, Nat.reduceAdd, Nat.reduceLeDiff, Nat.reduceLT, Int.reduceLT, Int.reduceLE, Int.reduceAdd, Int.reduceSub, Int.reduceMul, Int.reduceEq, eq_self, Nat.zero_add, decide_true, decide_false]
    rw [List.length_range] at e2
    exact k18_r8 (by omega) e3 hb q
theorem k18_r12 {byte : Int} (hb : 0 ≤ byte ∧ byte < 256) {t : Int} (ht : 0 ≤ t) {s0 s3 s4 s5 s6 s7 s8 s10 s11 s12 s13 s14 s15 s16 s17 s18 s19 : DV}
    (q : ∀ s6 s8 s9 s14 s15 s16 s17 s18 s19, D.nx [s0, .ref 0, .val (.int t), s3, s4, s5, s6, s7, s8, s9, s10, s11, s12, s13, s14, s15, s16, s17, s18, s19] Bx) :
    r_law_12 C D [s0, .ref 0, .val (.int t), s3, s4, s5, s6, s7, s8, .val (.int byte), s10, s11, s12, s13, s14, s15, s16, s17, s18, s19] Bx := by
  simp only [r_law_12, dSeq, dAsg, dRet, dRetN, dIfS, dDrop, dPar, dAug, dNext, dBreak, dCont, gN, gT, gs0_nil, gsC_cons, put, slot, dVar, dC, dOp2, dOp1, dTest, asB, dTruth, dNot, dAnd, dOr, dAndV, dOrV, dNotV, dIf, dChain, bOf, vw, vws, mem, mput, dTup, dLst, dLstM, dNil, dCons, vals, dSl, dPart, dNoPart, asI, pSl, pAdd, pSub, pMul, pNeg, pDiv, pMod, pLt, pLe, pGt, pGe, pInt, pIntC, pEq, pNe, pIx, pIsN, pIsNotN, pIsB, pIsNotB, pIn, pNotIn, isNone, dB, pLen, pTupleOf, pListOf, pItems, dBM, dMl, onL, pAppend, pExtend, pPopAt, dFz, asV, gSubL, dIs, isK, dRaise, dMkX, pTru, DV.is, DV.within, dIt, items, dR1, dR2, rangeD, dFor, dForT, dLc, dLcM, wipeD, dYes, dCall, refsOf, inn, back, wb, outn, List.map_cons, List.map_nil, List.length_cons, List.length_nil, List.cons_append, List.nil_append, List.append_nil, List.drop_nil, List.take_nil, List.drop_zero, true_and, and_true, if_true, ite_true, forall_const, Bool.not_true, Bool.not_false, Bool.false_eq_true, if_false, shp_int, shp_none, shp_bool, shp_nil, eqv_int, eqv_list_nil, atI_last, atI_0, atI_1, atI_2, atI_3, map_val_int, Int.reduceNeg, atI_map, pMax, pMin, pSum, pAll, pAny, pToInt, pAbs, exists_eq_left', exists_eq_left, Option.some.injEq, isEmpty_snoc, cutD_init, List.contains_nil, List.drop_succ_cons, List.take_succ_cons, sl, Nat.reduceAdd, Nat.reduceLeDiff, Nat.reduceLT, Int.reduceLT, Int.reduceLE, Int.reduceAdd, Int.reduceSub, Int.reduceMul, Int.reduceEq, eq_self, Nat.zero_add, decide_true, decide_false]
  refine draw_box 2001 (by decide) (by decide) rfl rfl fun m m0 m1 => ?_
  simp only [r_law_11, dSeq, dAsg, dRet, dRetN, dIfS, dDrop, dPar, dAug, dNext, dBreak, dCont, gN, gT, gs0_nil, gsC_cons, put, slot, dVar, dC, dOp2, dOp1, dTest, asB, dTruth, dNot, dAnd, dOr, dAndV, dOrV, dNotV, dIf, dChain, bOf, vw, vws, mem, mput, dTup, dLst, dLstM, dNil, dCons, vals, dSl, dPart, dNoPart, asI, pSl, pAdd, pSub, pMul, pNeg, pDiv, pMod, pLt, pLe, pGt, pGe, pInt, pIntC, pEq, pNe, pIx, pIsN, pIsNotN, pIsB, pIsNotB, pIn, pNotIn, isNone, dB, pLen, pTupleOf, pListOf, pItems, dBM, dMl, onL, pAppend, pExtend, pPopAt, dFz, asV, gSubL, dIs, isK, dRaise, dMkX, pTru, DV.is, DV.within, dIt, items, dR1, dR2, rangeD, dFor, dForT, dLc, dLcM, wipeD, dYes, dCall, refsOf, inn, back, wb, outn, List.map_cons, List.map_nil, List.length_cons, List.length_nil, List.cons_append, List.nil_append, List.append_nil, List.drop_nil, List.take_nil, List.drop_zero, true_and, and_true, if_true, ite_true, forall_const, Bool.not_true, Bool.not_false, Bool.false_eq_true, if_false, shp_int, shp_none, shp_bool, shp_nil, eqv_int, eqv_list_nil, atI_last, atI_0, atI_1, atI_2, atI_3, map_val_int, Int.reduceNeg, atI_map, pMax, pMin, pSum, pAll, pAny, pToInt, pAbs, exists_eq_left', exists_eq_left, Option.some.injEq, isEmpty_snoc, cutD_init, List.contains_nil, List.drop_succ_cons, List.take_succ_cons, sl, Nat.reduceAdd, Nat.reduceLeDiff, Nat.reduceLT, Int.reduceLT, Int.reduceLE, Int.reduceAdd, Int.reduceSub, Int.reduceMul, Int.reduceEq, eq_self, Nat.zero_add, decide_true, decide_false]
  generalize m - 1000 = n
  have rest : r_law_10 C D [s0, .ref 0, .val (.int t), s3, s4, s5, .val (.int n), s7, s8, .val (.int byte), s10, s11, s12, s13, .val (.int (foldD n)), s15, s16, s17, s18, s19] Bx := by
    simp only [r_law_10, dSeq, dAsg, dRet, dRetN, dIfS, dDrop, dPar, dAug, dNext, dBreak, dCont, gN, gT, gs0_nil, gsC_cons, put, slot, dVar, dC, dOp2, dOp1, dTest, asB, dTruth, dNot, dAnd, dOr, dAndV, dOrV, dNotV, dIf, dChain, bOf, vw, vws, mem, mput, dTup, dLst, dLstM, dNil, dCons, vals, dSl, dPart, dNoPart, asI, pSl, pAdd, pSub, pMul, pNeg, pDiv, pMod, pLt, pLe, pGt, pGe, pInt, pIntC, pEq, pNe, pIx, pIsN, pIsNotN, pIsB, pIsNotB, pIn, pNotIn, isNone, dB, pLen, pTupleOf, pListOf, pItems, dBM, dMl, onL, pAppend, pExtend, pPopAt, dFz, asV, gSubL, dIs, isK, dRaise, dMkX, pTru, DV.is, DV.within, dIt, items, dR1, dR2, rangeD, dFor, dForT, dLc, dLcM, wipeD, dYes, dCall, refsOf, inn, back, wb, outn, List.map_cons, List.map_nil, List.length_cons, List.length_nil, List.cons_append, List.nil_append, List.append_nil, List.drop_nil, List.take_nil, List.drop_zero, true_and, and_true, if_true, ite_true, forall_const, Bool.not_true, Bool.not_false, Bool.false_eq_true, if_false, shp_int, shp_none, shp_bool, shp_nil, eqv_int, eqv_list_nil, atI_last, atI_0, atI_1, atI_2, atI_3, map_val_int, Int.reduceNeg, atI_map, pMax, pMin, pSum, pAll, pAny, pToInt, pAbs, exists_eq_left', exists_eq_left, Option.some.injEq, isEmpty_snoc, cutD_init, List.contains_nil, List.drop_succ_cons, List.take_succ_cons, sl, Nat.reduceAdd, Nat.reduceLeDiff, Nat.reduceLT, Int.reduceLT, Int.reduceLE, Int.reduceAdd, Int.reduceSub, Int.reduceMul, Int.reduceEq, eq_self, Nat.zero_add, decide_true, decide_false]
    refine spec_folded n ?_
    simp only [dSeq, dAsg, dRet, dRetN, dIfS, dDrop, dPar, dAug, dNext, dBreak, dCont, gN, gT, gs0_nil, gsC_cons, put, slot, dVar, dC, dOp2, dOp1, dTest, asB, dTruth, dNot, dAnd, dOr, dAndV, dOrV, dNotV, dIf, dChain, bOf, vw, vws, mem, mput, dTup, dLst, dLstM, dNil, dCons, vals, dSl, dPart, dNoPart, asI, pSl, pAdd, pSub, pMul, pNeg, pDiv, pMod, pLt, pLe, pGt, pGe, pInt, pIntC, pEq, pNe, pIx, pIsN, pIsNotN, pIsB, pIsNotB, pIn, pNotIn, isNone, dB, pLen, pTupleOf, pListOf, pItems, dBM, dMl, onL, pAppend, pExtend, pPopAt, dFz, asV, gSubL, dIs, isK, dRaise, dMkX, pTru, DV.is, DV.within, dIt, items, dR1, dR2, rangeD, dFor, dForT, dLc, dLcM, wipeD, dYes, dCall, refsOf, inn, back, wb, outn, List.map_cons, List.map_nil, List.length_cons, List.length_nil, List.cons_append, List.nil_append, List.append_nil, List.drop_nil, List.take_nil, List.drop_zero, true_and, and_true, if_true, ite_true, forall_const, Bool.not_true, Bool.not_false, Bool.false_eq_true, if_false, shp_int, shp_none, shp_bool, shp_nil, eqv_int, eqv_list_nil, atI_last, atI_0, atI_1, atI_2, atI_3, map_val_int, Int.reduceNeg, atI_map, pMax, pMin, pSum, pAll, pAny, pToInt, pAbs, exists_eq_left', exists_eq_left, Option.some.injEq, isEmpty_snoc, cutD_init, List.contains_nil, List.drop_succ_cons, List.take_succ_cons, sl, Nat.reduceAdd, Nat.reduceLeDiff, Nat.reduceLT, Int.reduceLT, Int.reduceLE, Int.reduceAdd, Int.reduceSub, Int.reduceMul, Int.reduceEq, eq_self, Nat.zero_add, decide_true, decide_false]
    refine spec_unfolded (foldD n) ?_
    rw [unfold_fold]
    simp only [dSeq, dAsg, dRet, dRetN, dIfS, dDrop, dPar, dAug, dNext, dBreak, dCont, gN, gT, gs0_nil, gsC_cons, put, slot, dVar, dC, dOp2, dOp1, dTest, asB, dTruth, dNot, dAnd, dOr, dAndV, dOrV, dNotV, dIf, dChain, bOf, vw, vws, mem, mput, dTup, dLst, dLstM, dNil, dCons, vals, dSl, dPart, dNoPart, asI, pSl, pAdd, pSub, pMul, pNeg, pDiv, pMod, pLt, pLe, pGt, pGe, pInt, pIntC, pEq, pNe, pIx, pIsN, pIsNotN, pIsB, pIsNotB, pIn, pNotIn, isNone, dB, pLen, pTupleOf, pListOf, pItems, dBM, dMl, onL, pAppend, pExtend, pPopAt, dFz, asV, gSubL, dIs, isK, dRaise, dMkX, pTru, DV.is, DV.within, dIt, items, dR1, dR2, rangeD, dFor, dForT, dLc, dLcM, wipeD, dYes, dCall, refsOf, inn, back, wb, outn, List.map_cons, List.map_nil, List.length_cons, List.length_nil, List.cons_append, List.nil_append, List.append_nil, List.drop_nil, List.take_nil, List.drop_zero, true_and, and_true, if_true, ite_true, forall_const, Bool.not_true, Bool.not_false, Bool.false_eq_true, if_false, shp_int, shp_none, shp_bool, shp_nil, eqv_int, eqv_list_nil, atI_last, atI_0, atI_1, atI_2, atI_3, map_val_int, Int.reduceNeg, atI_map, pMax, pMin, pSum, pAll, pAny, pToInt, pAbs, exists_eq_left', exists_eq_left, Option.some.injEq, isEmpty_snoc, cutD_init, List.contains_nil, List.drop_succ_cons, List.take_succ_cons, sl, Nat.reduceAdd, Nat.reduceLeDiff, Nat.reduceLT, Int.reduceLT, Int.reduceLE, Int.reduceAdd, Int.reduceSub, Int.reduceMul, Int.reduceEq, eq_self, Nat.zero_add, decide_true, decide_false]
    refine same_of (n := 5) ?_ (by decide) ?_
    · exact (sh_pair (n := 0) (sh_int _) (sh_int _)).mono (by decide)
    · simp only [dSeq, dAsg, dRet, dRetN, dIfS, dDrop, dPar, dAug, dNext, dBreak, dCont, gN, gT, gs0_nil, gsC_cons, put, slot, dVar, dC, dOp2, dOp1, dTest, asB, dTruth, dNot, dAnd, dOr, dAndV, dOrV, dNotV, dIf, dChain, bOf, vw, vws, mem, mput, dTup, dLst, dLstM, dNil, dCons, vals, dSl, dPart, dNoPart, asI, pSl, pAdd, pSub, pMul, pNeg, pDiv, pMod, pLt, pLe, pGt, pGe, pInt, pIntC, pEq, pNe, pIx, pIsN, pIsNotN, pIsB, pIsNotB, pIn, pNotIn, isNone, dB, pLen, pTupleOf, pListOf, pItems, dBM, dMl, onL, pAppend, pExtend, pPopAt, dFz, asV, gSubL, dIs, isK, dRaise, dMkX, pTru, DV.is, DV.within, dIt, items, dR1, dR2, rangeD, dFor, dForT, dLc, dLcM, wipeD, dYes, dCall, refsOf, inn, back, wb, outn, List.map_cons, List.map_nil, List.length_cons, List.length_nil, List.cons_append, List.nil_append, List.append_nil, List.drop_nil, List.take_nil, List.drop_zero, true_and, and_true, if_true, ite_true, forall_const, Bool.not_true, Bool.not_false, Bool.false_eq_true, if_false, shp_int, shp_none, shp_bool, shp_nil, eqv_int, eqv_list_nil, atI_last, atI_0, atI_1, atI_2, atI_3, map_val_int, Int.reduceNeg, atI_map, pMax, pMin, pSum, pAll, pAny, pToInt, pAbs, exists_eq_left', exists_eq_left, Option.some.injEq, isEmpty_snoc, cutD_init, List.contains_nil, List.drop_succ_cons, List.take_succ_cons, sl, Nat.reduceAdd, Nat.reduceLeDiff, Nat.reduceLT, Int.reduceLT, Int.reduceLE, Int.reduceAdd, Int.reduceSub, Int.reduceMul, Int.reduceEq, eq_self, Nat.zero_add, decide_true, decide_false]
      exact k18_r9 hb ht fun s8 s9 s15 s16 s17 s18 s19 => q _ _ _ _ _ _ _ _ _
  unfold foldD at rest
  by_cases h : n ≥ 0
  · rw [if_pos h] at rest
    rw [if_pos (decide_eq_true h)]
    exact ⟨cmul_l (by decide) (by decide), rest⟩
  · rw [if_neg h] at rest
    rw [if_neg (by simpa using h)]
    exact ⟨cmul_l (by decide) (by decide), rest⟩
/-- one reading, at any place -/
theorem k18_2 {some : List Int} (hs : ∀ b ∈ some, 0 ≤ b ∧ b < 256) (hsl : some.length ≤ 10000) {s0 s2 s3 s4 s5 s6 s7 s8 s9 s11 s12 s13 s14 s15 s16 s17 s18 s19 : DV}
    (q : ∀ s11 s12 s13 s14, D.nx [s0, .ref 0, s2, s3, s4, s5, s6, s7, s8, s9, .val (.tuple (intL some)), s11, s12, s13, s14, s15, s16, s17, s18, s19] Bx) :
    b_law_2 C D [s0, .ref 0, s2, s3, s4, s5, s6, s7, s8, s9, .val (.tuple (intL some)), s11, s12, s13, s14, s15, s16, s17, s18, s19] Bx := by
  simp only [b_law_2, dSeq, dAsg, dRet, dRetN, dIfS, dDrop, dPar, dAug, dNext, dBreak, dCont, gN, gT, gs0_nil, gsC_cons, put, slot, dVar, dC, dOp2, dOp1, dTest, asB, dTruth, dNot, dAnd, dOr, dAndV, dOrV, dNotV, dIf, dChain, bOf, vw, vws, mem, mput, dTup, dLst, dLstM, dNil, dCons, vals, dSl, dPart, dNoPart, asI, pSl, pAdd, pSub, pMul, pNeg, pDiv, pMod, pLt, pLe, pGt, pGe, pInt, pIntC, pEq, pNe, pIx, pIsN, pIsNotN, pIsB, pIsNotB, pIn, pNotIn, isNone, dB, pLen, pTupleOf, pListOf, pItems, dBM, dMl, onL, pAppend, pExtend, pPopAt, dFz, asV, gSubL, dIs, isK, dRaise, dMkX, pTru, DV.is, DV.within, dIt, items, dR1, dR2, rangeD, dFor, dForT, dLc, dLcM, wipeD, dYes, dCall, refsOf, inn, back, wb, outn, List.map_cons, List.map_nil, List.length_cons, List.length_nil, List.cons_append, List.nil_append, List.append_nil, List.drop_nil, List.take_nil, List.drop_zero, true_and, and_true, if_true, ite_true, forall_const, Bool.not_true, Bool.not_false, Bool.false_eq_true, if_false, shp_int, shp_none, shp_bool, shp_nil, eqv_int, eqv_list_nil, atI_last, atI_0, atI_1, atI_2, atI_3, map_val_int, Int.reduceNeg, atI_map, pMax, pMin, pSum, pAll, pAny, pToInt, pAbs, exists_eq_left', exists_eq_left, Option.some.injEq, isEmpty_snoc, cutD_init, List.contains_nil, List.drop_succ_cons, List.take_succ_cons, sl, Nat.reduceAdd, Nat.reduceLeDiff, Nat.reduceLT, Int.reduceLT, Int.reduceLE, Int.reduceAdd, Int.reduceSub, Int.reduceMul, Int.reduceEq, eq_self, Nat.zero_add, decide_true, decide_false, List.length_map]
  intro _
  refine draw_box ((some.length : Int) + 1) (by omega) (by omega) rfl rfl fun d d0 d1 => ?_
  obtain ⟨a, ea⟩ : ∃ a : Nat, d = a := ⟨d.toNat, by omega⟩
  subst ea
  simp only [r_law_2, dSeq, dAsg, dRet, dRetN, dIfS, dDrop, dPar, dAug, dNext, dBreak, dCont, gN, gT, gs0_nil, gsC_cons, put, slot, dVar, dC, dOp2, dOp1, dTest, asB, dTruth, dNot, dAnd, dOr, dAndV, dOrV, dNotV, dIf, dChain, bOf, vw, vws, mem, mput, dTup, dLst, dLstM, dNil, dCons, vals, dSl, dPart, dNoPart, asI, pSl, pAdd, pSub, pMul, pNeg, pDiv, pMod, pLt, pLe, pGt, pGe, pInt, pIntC, pEq, pNe, pIx, pIsN, pIsNotN, pIsB, pIsNotB, pIn, pNotIn, isNone, dB, pLen, pTupleOf, pListOf, pItems, dBM, dMl, onL, pAppend, pExtend, pPopAt, dFz, asV, gSubL, dIs, isK, dRaise, dMkX, pTru, DV.is, DV.within, dIt, items, dR1, dR2, rangeD, dFor, dForT, dLc, dLcM, wipeD, dYes, dCall, refsOf, inn, back, wb, outn, List.map_cons, List.map_nil, List.length_cons, List.length_nil, List.cons_append, List.nil_append, List.append_nil, List.drop_nil, List.take_nil, List.drop_zero, true_and, and_true, if_true, ite_true, forall_const, Bool.not_true, Bool.not_false, Bool.false_eq_true, if_false, shp_int, shp_none, shp_bool, shp_nil, eqv_int, eqv_list_nil, atI_last, atI_0, atI_1, atI_2, atI_3, map_val_int, Int.reduceNeg, atI_map, pMax, pMin, pSum, pAll, pAny, pToInt, pAbs, exists_eq_left', exists_eq_left, Option.some.injEq, isEmpty_snoc, cutD_init, List.contains_nil, List.drop_succ_cons, List.take_succ_cons, sl, Nat.reduceAdd, Nat.reduceLeDiff, Nat.reduceLT, Int.reduceLT, Int.reduceLE, Int.reduceAdd, Int.reduceSub, Int.reduceMul, Int.reduceEq, eq_self, Nat.zero_add, decide_true, decide_false]
  refine spec__law_read some hs (by omega) a (by omega) ?_
  cases hn : readN some a with
  | inl vp =>
    obtain ⟨v, p⟩ := vp
    obtain ⟨hl, h0, h1, n, rfl, hnb⟩ := readN_inl hs hn
    simp only [outN, dSeq, dAsg, dRet, dRetN, dIfS, dDrop, dPar, dAug, dNext, dBreak, dCont, gN, gT, gs0_nil, gsC_cons, put, slot, dVar, dC, dOp2, dOp1, dTest, asB, dTruth, dNot, dAnd, dOr, dAndV, dOrV, dNotV, dIf, dChain, bOf, vw, vws, mem, mput, dTup, dLst, dLstM, dNil, dCons, vals, dSl, dPart, dNoPart, asI, pSl, pAdd, pSub, pMul, pNeg, pDiv, pMod, pLt, pLe, pGt, pGe, pInt, pIntC, pEq, pNe, pIx, pIsN, pIsNotN, pIsB, pIsNotB, pIn, pNotIn, isNone, dB, pLen, pTupleOf, pListOf, pItems, dBM, dMl, onL, pAppend, pExtend, pPopAt, dFz, asV, gSubL, dIs, isK, dRaise, dMkX, pTru, DV.is, DV.within, dIt, items, dR1, dR2, rangeD, dFor, dForT, dLc, dLcM, wipeD, dYes, dCall, refsOf, inn, back, wb, outn, List.map_cons, List.map_nil, List.length_cons, List.length_nil, List.cons_append, List.nil_append, List.append_nil, List.drop_nil, List.take_nil, List.drop_zero, true_and, and_true, if_true, ite_true, forall_const, Bool.not_true, Bool.not_false, Bool.false_eq_true, if_false, shp_int, shp_none, shp_bool, shp_nil, eqv_int, eqv_list_nil, atI_last, atI_0, atI_1, atI_2, atI_3, map_val_int, Int.reduceNeg, atI_map, pMax, pMin, pSum, pAll, pAny, pToInt, pAbs, exists_eq_left', exists_eq_left, Option.some.injEq, isEmpty_snoc, cutD_init, List.contains_nil, List.drop_succ_cons, List.take_succ_cons, sl, Nat.reduceAdd, Nat.reduceLeDiff, Nat.reduceLT, Int.reduceLT, Int.reduceLE, Int.reduceAdd, Int.reduceSub, Int.reduceMul, Int.reduceEq, eq_self, Nat.zero_add, decide_true, decide_false]
    simp only [r_law_1, dSeq, dAsg, dRet, dRetN, dIfS, dDrop, dPar, dAug, dNext, dBreak, dCont, gN, gT, gs0_nil, gsC_cons, put, slot, dVar, dC, dOp2, dOp1, dTest, asB, dTruth, dNot, dAnd, dOr, dAndV, dOrV, dNotV, dIf, dChain, bOf, vw, vws, mem, mput, dTup, dLst, dLstM, dNil, dCons, vals, dSl, dPart, dNoPart, asI, pSl, pAdd, pSub, pMul, pNeg, pDiv, pMod, pLt, pLe, pGt, pGe, pInt, pIntC, pEq, pNe, pIx, pIsN, pIsNotN, pIsB, pIsNotB, pIn, pNotIn, isNone, dB, pLen, pTupleOf, pListOf, pItems, dBM, dMl, onL, pAppend, pExtend, pPopAt, dFz, asV, gSubL, dIs, isK, dRaise, dMkX, pTru, DV.is, DV.within, dIt, items, dR1, dR2, rangeD, dFor, dForT, dLc, dLcM, wipeD, dYes, dCall, refsOf, inn, back, wb, outn, List.map_cons, List.map_nil, List.length_cons, List.length_nil, List.cons_append, List.nil_append, List.append_nil, List.drop_nil, List.take_nil, List.drop_zero, true_and, and_true, if_true, ite_true, forall_const, Bool.not_true, Bool.not_false, Bool.false_eq_true, if_false, shp_int, shp_none, shp_bool, shp_nil, eqv_int, eqv_list_nil, atI_last, atI_0, atI_1, atI_2, atI_3, map_val_int, Int.reduceNeg, atI_map, pMax, pMin, pSum, pAll, pAny, pToInt, pAbs, exists_eq_left', exists_eq_left, Option.some.injEq, isEmpty_snoc, cutD_init, List.contains_nil, List.drop_succ_cons, List.take_succ_cons, sl, Nat.reduceAdd, Nat.reduceLeDiff, Nat.reduceLT, Int.reduceLT, Int.reduceLE, Int.reduceAdd, Int.reduceSub, Int.reduceMul, Int.reduceEq, eq_self, Nat.zero_add, decide_true, decide_false]
    refine spec__law_place some hs (by omega) a ?_
    rw [hl]
    simp only [optN, dSeq, dAsg, dRet, dRetN, dIfS, dDrop, dPar, dAug, dNext, dBreak, dCont, gN, gT, gs0_nil, gsC_cons, put, slot, dVar, dC, dOp2, dOp1, dTest, asB, dTruth, dNot, dAnd, dOr, dAndV, dOrV, dNotV, dIf, dChain, bOf, vw, vws, mem, mput, dTup, dLst, dLstM, dNil, dCons, vals, dSl, dPart, dNoPart, asI, pSl, pAdd, pSub, pMul, pNeg, pDiv, pMod, pLt, pLe, pGt, pGe, pInt, pIntC, pEq, pNe, pIx, pIsN, pIsNotN, pIsB, pIsNotB, pIn, pNotIn, isNone, dB, pLen, pTupleOf, pListOf, pItems, dBM, dMl, onL, pAppend, pExtend, pPopAt, dFz, asV, gSubL, dIs, isK, dRaise, dMkX, pTru, DV.is, DV.within, dIt, items, dR1, dR2, rangeD, dFor, dForT, dLc, dLcM, wipeD, dYes, dCall, refsOf, inn, back, wb, outn, List.map_cons, List.map_nil, List.length_cons, List.length_nil, List.cons_append, List.nil_append, List.append_nil, List.drop_nil, List.take_nil, List.drop_zero, true_and, and_true, if_true, ite_true, forall_const, Bool.not_true, Bool.not_false, Bool.false_eq_true, if_false, shp_int, shp_none, shp_bool, shp_nil, eqv_int, eqv_list_nil, atI_last, atI_0, atI_1, atI_2, atI_3, map_val_int, Int.reduceNeg, atI_map, pMax, pMin, pSum, pAll, pAny, pToInt, pAbs, exists_eq_left', exists_eq_left, Option.some.injEq, isEmpty_snoc, cutD_init, List.contains_nil, List.drop_succ_cons, List.take_succ_cons, sl, Nat.reduceAdd, Nat.reduceLeDiff, Nat.reduceLT, Int.reduceLT, Int.reduceLE, Int.reduceAdd, Int.reduceSub, Int.reduceMul, Int.reduceEq, eq_self, Nat.zero_add, decide_true, decide_false]
    refine same_of (n := 1) sh_none (by decide) ?_
    simp only [dSeq, dAsg, dRet, dRetN, dIfS, dDrop, dPar, dAug, dNext, dBreak, dCont, gN, gT, gs0_nil, gsC_cons, put, slot, dVar, dC, dOp2, dOp1, dTest, asB, dTruth, dNot, dAnd, dOr, dAndV, dOrV, dNotV, dIf, dChain, bOf, vw, vws, mem, mput, dTup, dLst, dLstM, dNil, dCons, vals, dSl, dPart, dNoPart, asI, pSl, pAdd, pSub, pMul, pNeg, pDiv, pMod, pLt, pLe, pGt, pGe, pInt, pIntC, pEq, pNe, pIx, pIsN, pIsNotN, pIsB, pIsNotB, pIn, pNotIn, isNone, dB, pLen, pTupleOf, pListOf, pItems, dBM, dMl, onL, pAppend, pExtend, pPopAt, dFz, asV, gSubL, dIs, isK, dRaise, dMkX, pTru, DV.is, DV.within, dIt, items, dR1, dR2, rangeD, dFor, dForT, dLc, dLcM, wipeD, dYes, dCall, refsOf, inn, back, wb, outn, List.map_cons, List.map_nil, List.length_cons, List.length_nil, List.cons_append, List.nil_append, List.append_nil, List.drop_nil, List.take_nil, List.drop_zero, true_and, and_true, if_true, ite_true, forall_const, Bool.not_true, Bool.not_false, Bool.false_eq_true, if_false, shp_int, shp_none, shp_bool, shp_nil, eqv_int, eqv_list_nil, atI_last, atI_0, atI_1, atI_2, atI_3, map_val_int, Int.reduceNeg, atI_map, pMax, pMin, pSum, pAll, pAny, pToInt, pAbs, exists_eq_left', exists_eq_left, Option.some.injEq, isEmpty_snoc, cutD_init, List.contains_nil, List.drop_succ_cons, List.take_succ_cons, sl, Nat.reduceAdd, Nat.reduceLeDiff, Nat.reduceLT, Int.reduceLT, Int.reduceLE, Int.reduceAdd, Int.reduceSub, Int.reduceMul, Int.reduceEq, eq_self, Nat.zero_add, decide_true, decide_false]
    have hn60 : n < 256 ^ 64 := by
      refine numB_lt fun b hb => ?_
      rw [hnb] at hb
      exact (hs b (List.mem_of_mem_drop (List.mem_of_mem_take hb))).2
    refine spec__law_number n hn60 ?_
    simp only [dSeq, dAsg, dRet, dRetN, dIfS, dDrop, dPar, dAug, dNext, dBreak, dCont, gN, gT, gs0_nil, gsC_cons, put, slot, dVar, dC, dOp2, dOp1, dTest, asB, dTruth, dNot, dAnd, dOr, dAndV, dOrV, dNotV, dIf, dChain, bOf, vw, vws, mem, mput, dTup, dLst, dLstM, dNil, dCons, vals, dSl, dPart, dNoPart, asI, pSl, pAdd, pSub, pMul, pNeg, pDiv, pMod, pLt, pLe, pGt, pGe, pInt, pIntC, pEq, pNe, pIx, pIsN, pIsNotN, pIsB, pIsNotB, pIn, pNotIn, isNone, dB, pLen, pTupleOf, pListOf, pItems, dBM, dMl, onL, pAppend, pExtend, pPopAt, dFz, asV, gSubL, dIs, isK, dRaise, dMkX, pTru, DV.is, DV.within, dIt, items, dR1, dR2, rangeD, dFor, dForT, dLc, dLcM, wipeD, dYes, dCall, refsOf, inn, back, wb, outn, List.map_cons, List.map_nil, List.length_cons, List.length_nil, List.cons_append, List.nil_append, List.append_nil, List.drop_nil, List.take_nil, List.drop_zero, true_and, and_true, if_true, ite_true, forall_const, Bool.not_true, Bool.not_false, Bool.false_eq_true, if_false, shp_int, shp_none, shp_bool, shp_nil, eqv_int, eqv_list_nil, atI_last, atI_0, atI_1, atI_2, atI_3, map_val_int, Int.reduceNeg, atI_map, pMax, pMin, pSum, pAll, pAny, pToInt, pAbs, exists_eq_left', exists_eq_left, Option.some.injEq, isEmpty_snoc, cutD_init, List.contains_nil, List.drop_succ_cons, List.take_succ_cons, sl, Nat.reduceAdd, Nat.reduceLeDiff, Nat.reduceLT, Int.reduceLT, Int.reduceLE, Int.reduceAdd, Int.reduceSub, Int.reduceMul, Int.reduceEq, eq_self, Nat.zero_add, decide_true, decide_false, cutD_map]
    rw [cutD_mid some (a := (a : Int)) (b := (p : Int)) (by omega) (by omega), show (a : Int).toNat = a by omega, show (p : Int).toNat = p by omega, ← hnb]
    refine ⟨shp_intT _, shp_intT _, ?_⟩
    rw [eqv_intT, if_neg (by simp)]
    exact q _ _ _ _
  | inr b =>
    obtain ⟨hl, h0⟩ := readN_inr hs hn
    simp only [outN, dSeq, dAsg, dRet, dRetN, dIfS, dDrop, dPar, dAug, dNext, dBreak, dCont, gN, gT, gs0_nil, gsC_cons, put, slot, dVar, dC, dOp2, dOp1, dTest, asB, dTruth, dNot, dAnd, dOr, dAndV, dOrV, dNotV, dIf, dChain, bOf, vw, vws, mem, mput, dTup, dLst, dLstM, dNil, dCons, vals, dSl, dPart, dNoPart, asI, pSl, pAdd, pSub, pMul, pNeg, pDiv, pMod, pLt, pLe, pGt, pGe, pInt, pIntC, pEq, pNe, pIx, pIsN, pIsNotN, pIsB, pIsNotB, pIn, pNotIn, isNone, dB, pLen, pTupleOf, pListOf, pItems, dBM, dMl, onL, pAppend, pExtend, pPopAt, dFz, asV, gSubL, dIs, isK, dRaise, dMkX, pTru, DV.is, DV.within, dIt, items, dR1, dR2, rangeD, dFor, dForT, dLc, dLcM, wipeD, dYes, dCall, refsOf, inn, back, wb, outn, List.map_cons, List.map_nil, List.length_cons, List.length_nil, List.cons_append, List.nil_append, List.append_nil, List.drop_nil, List.take_nil, List.drop_zero, true_and, and_true, if_true, ite_true, forall_const, Bool.not_true, Bool.not_false, Bool.false_eq_true, if_false, shp_int, shp_none, shp_bool, shp_nil, eqv_int, eqv_list_nil, atI_last, atI_0, atI_1, atI_2, atI_3, map_val_int, Int.reduceNeg, atI_map, pMax, pMin, pSum, pAll, pAny, pToInt, pAbs, exists_eq_left', exists_eq_left, Option.some.injEq, isEmpty_snoc, cutD_init, List.contains_nil, List.drop_succ_cons, List.take_succ_cons, sl, Nat.reduceAdd, Nat.reduceLeDiff, Nat.reduceLT, Int.reduceLT, Int.reduceLE, Int.reduceAdd, Int.reduceSub, Int.reduceMul, Int.reduceEq, eq_self, Nat.zero_add, decide_true, decide_false]
    simp only [r_law_1, dSeq, dAsg, dRet, dRetN, dIfS, dDrop, dPar, dAug, dNext, dBreak, dCont, gN, gT, gs0_nil, gsC_cons, put, slot, dVar, dC, dOp2, dOp1, dTest, asB, dTruth, dNot, dAnd, dOr, dAndV, dOrV, dNotV, dIf, dChain, bOf, vw, vws, mem, mput, dTup, dLst, dLstM, dNil, dCons, vals, dSl, dPart, dNoPart, asI, pSl, pAdd, pSub, pMul, pNeg, pDiv, pMod, pLt, pLe, pGt, pGe, pInt, pIntC, pEq, pNe, pIx, pIsN, pIsNotN, pIsB, pIsNotB, pIn, pNotIn, isNone, dB, pLen, pTupleOf, pListOf, pItems, dBM, dMl, onL, pAppend, pExtend, pPopAt, dFz, asV, gSubL, dIs, isK, dRaise, dMkX, pTru, DV.is, DV.within, dIt, items, dR1, dR2, rangeD, dFor, dForT, dLc, dLcM, wipeD, dYes, dCall, refsOf, inn, back, wb, outn, List.map_cons, List.map_nil, List.length_cons, List.length_nil, List.cons_append, List.nil_append, List.append_nil, List.drop_nil, List.take_nil, List.drop_zero, true_and, and_true, if_true, ite_true, forall_const, Bool.not_true, Bool.not_false, Bool.false_eq_true, if_false, shp_int, shp_none, shp_bool, shp_nil, eqv_int, eqv_list_nil, atI_last, atI_0, atI_1, atI_2, atI_3, map_val_int, Int.reduceNeg, atI_map, pMax, pMin, pSum, pAll, pAny, pToInt, pAbs, exists_eq_left', exists_eq_left, Option.some.injEq, isEmpty_snoc, cutD_init, List.contains_nil, List.drop_succ_cons, List.take_succ_cons, sl, Nat.reduceAdd, Nat.reduceLeDiff, Nat.reduceLT, Int.reduceLT, Int.reduceLE, Int.reduceAdd, Int.reduceSub, Int.reduceMul, Int.reduceEq, eq_self, Nat.zero_add, decide_true, decide_false]
    refine spec__law_place some hs (by omega) a ?_
    rw [hl]
    simp only [optN, dSeq, dAsg, dRet, dRetN, dIfS, dDrop, dPar, dAug, dNext, dBreak, dCont, gN, gT, gs0_nil, gsC_cons, put, slot, dVar, dC, dOp2, dOp1, dTest, asB, dTruth, dNot, dAnd, dOr, dAndV, dOrV, dNotV, dIf, dChain, bOf, vw, vws, mem, mput, dTup, dLst, dLstM, dNil, dCons, vals, dSl, dPart, dNoPart, asI, pSl, pAdd, pSub, pMul, pNeg, pDiv, pMod, pLt, pLe, pGt, pGe, pInt, pIntC, pEq, pNe, pIx, pIsN, pIsNotN, pIsB, pIsNotB, pIn, pNotIn, isNone, dB, pLen, pTupleOf, pListOf, pItems, dBM, dMl, onL, pAppend, pExtend, pPopAt, dFz, asV, gSubL, dIs, isK, dRaise, dMkX, pTru, DV.is, DV.within, dIt, items, dR1, dR2, rangeD, dFor, dForT, dLc, dLcM, wipeD, dYes, dCall, refsOf, inn, back, wb, outn, List.map_cons, List.map_nil, List.length_cons, List.length_nil, List.cons_append, List.nil_append, List.append_nil, List.drop_nil, List.take_nil, List.drop_zero, true_and, and_true, if_true, ite_true, forall_const, Bool.not_true, Bool.not_false, Bool.false_eq_true, if_false, shp_int, shp_none, shp_bool, shp_nil, eqv_int, eqv_list_nil, atI_last, atI_0, atI_1, atI_2, atI_3, map_val_int, Int.reduceNeg, atI_map, pMax, pMin, pSum, pAll, pAny, pToInt, pAbs, exists_eq_left', exists_eq_left, Option.some.injEq, isEmpty_snoc, cutD_init, List.contains_nil, List.drop_succ_cons, List.take_succ_cons, sl, Nat.reduceAdd, Nat.reduceLeDiff, Nat.reduceLT, Int.reduceLT, Int.reduceLE, Int.reduceAdd, Int.reduceSub, Int.reduceMul, Int.reduceEq, eq_self, Nat.zero_add, decide_true, decide_false]
    refine same_of (n := 1) (sh_int _) (by decide) ?_
    simp only [dSeq, dAsg, dRet, dRetN, dIfS, dDrop, dPar, dAug, dNext, dBreak, dCont, gN, gT, gs0_nil, gsC_cons, put, slot, dVar, dC, dOp2, dOp1, dTest, asB, dTruth, dNot, dAnd, dOr, dAndV, dOrV, dNotV, dIf, dChain, bOf, vw, vws, mem, mput, dTup, dLst, dLstM, dNil, dCons, vals, dSl, dPart, dNoPart, asI, pSl, pAdd, pSub, pMul, pNeg, pDiv, pMod, pLt, pLe, pGt, pGe, pInt, pIntC, pEq, pNe, pIx, pIsN, pIsNotN, pIsB, pIsNotB, pIn, pNotIn, isNone, dB, pLen, pTupleOf, pListOf, pItems, dBM, dMl, onL, pAppend, pExtend, pPopAt, dFz, asV, gSubL, dIs, isK, dRaise, dMkX, pTru, DV.is, DV.within, dIt, items, dR1, dR2, rangeD, dFor, dForT, dLc, dLcM, wipeD, dYes, dCall, refsOf, inn, back, wb, outn, List.map_cons, List.map_nil, List.length_cons, List.length_nil, List.cons_append, List.nil_append, List.append_nil, List.drop_nil, List.take_nil, List.drop_zero, true_and, and_true, if_true, ite_true, forall_const, Bool.not_true, Bool.not_false, Bool.false_eq_true, if_false, shp_int, shp_none, shp_bool, shp_nil, eqv_int, eqv_list_nil, atI_last, atI_0, atI_1, atI_2, atI_3, map_val_int, Int.reduceNeg, atI_map, pMax, pMin, pSum, pAll, pAny, pToInt, pAbs, exists_eq_left', exists_eq_left, Option.some.injEq, isEmpty_snoc, cutD_init, List.contains_nil, List.drop_succ_cons, List.take_succ_cons, sl, Nat.reduceAdd, Nat.reduceLeDiff, Nat.reduceLT, Int.reduceLT, Int.reduceLE, Int.reduceAdd, Int.reduceSub, Int.reduceMul, Int.reduceEq, eq_self, Nat.zero_add, decide_true, decide_false]
    exact q _ _ _ _
end
section
variable {C : Str → Addr} {D : DEn} {C' : Mem → Prop}
theorem k18_2f (hC : ∀ M, C' M) {s0 s2 s3 s4 s5 s6 s7 s8 s9 s15 s16 s17 s18 s19 : DV} : ∀ (ls : List (List Int)) (s10 s11 s12 s13 s14 : DV), (∀ s ∈ ls, (∀ b ∈ s, 0 ≤ b ∧ b < 256) ∧ s.length ≤ 10000) →
    (∀ s10 s11 s12 s13 s14, D.nx [s0, .ref 0, s2, s3, s4, s5, s6, s7, s8, s9, s10, s11, s12, s13, s14, s15, s16, s17, s18, s19] Bx) →
    forL (gN 10) (b_law_2 C) D C' (ls.map fun s => .val (.tuple (intL s))) [s0, .ref 0, s2, s3, s4, s5, s6, s7, s8, s9, s10, s11, s12, s13, s14, s15, s16, s17, s18, s19] Bx
  | [], s10, s11, s12, s13, s14, _, q => ⟨hC _, q s10 s11 s12 s13 s14⟩
  | s :: ls, s10, s11, s12, s13, s14, hs, q => ⟨hC _, k18_2 (hs s List.mem_cons_self).1 (hs s List.mem_cons_self).2 fun s11 s12 s13 s14 => k18_2f hC ls _ s11 s12 s13 s14 (fun t ht => hs t (List.mem_cons_of_mem _ ht)) q⟩
theorem k18_r13 {data : List Int} (hd : ∀ b ∈ data, 0 ≤ b ∧ b < 256) (hdl : data.length ≤ 5000) {k : Nat} {byte : Int} (hb : 0 ≤ byte ∧ byte < 256) {t : Int} (ht : 0 ≤ t) {s0 s3 s4 s5 s6 s10 s11 s12 s13 s14 s15 s16 s17 s18 s19 : DV}
    (q : ∀ s6 s8 s9 s10 s11 s12 s13 s14 s15 s16 s17 s18 s19, D.nx [s0, .ref 0, .val (.int t), s3, s4, s5, s6, .val (.tuple (intL data)), s8, s9, s10, s11, s12, s13, s14, s15, s16, s17, s18, s19] Bx) :
    r_law_13 C D [s0, .ref 0, .val (.int t), s3, s4, s5, s6, .val (.tuple (intL data)), .val (.int k), .val (.int byte), s10, s11, s12, s13, s14, s15, s16, s17, s18, s19] Bx := by
  simp only [r_law_13, dSeq, dAsg, dRet, dRetN, dIfS, dDrop, dPar, dAug, dNext, dBreak, dCont, gN, gT, gs0_nil, gsC_cons, put, slot, dVar, dC, dOp2, dOp1, dTest, asB, dTruth, dNot, dAnd, dOr, dAndV, dOrV, dNotV, dIf, dChain, bOf, vw, vws, mem, mput, dTup, dLst, dLstM, dNil, dCons, vals, dSl, dPart, dNoPart, asI, pSl, pAdd, pSub, pMul, pNeg, pDiv, pMod, pLt, pLe, pGt, pGe, pInt, pIntC, pEq, pNe, pIx, pIsN, pIsNotN, pIsB, pIsNotB, pIn, pNotIn, isNone, dB, pLen, pTupleOf, pListOf, pItems, dBM, dMl, onL, pAppend, pExtend, pPopAt, dFz, asV, gSubL, dIs, isK, dRaise, dMkX, pTru, DV.is, DV.within, dIt, items, dR1, dR2, rangeD, dFor, dForT, dLc, dLcM, wipeD, dYes, dCall, refsOf, inn, back, wb, outn, List.map_cons, List.map_nil, List.length_cons, List.length_nil, List.cons_append, List.nil_append, List.append_nil, List.drop_nil, List.take_nil, List.drop_zero, true_and, and_true, if_true, ite_true, forall_const, Bool.not_true, Bool.not_false, Bool.false_eq_true, if_false, shp_int, shp_none, shp_bool, shp_nil, eqv_int, eqv_list_nil, atI_last, atI_0, atI_1, atI_2, atI_3, map_val_int, Int.reduceNeg, atI_map, pMax, pMin, pSum, pAll, pAny, pToInt, pAbs, exists_eq_left', exists_eq_left, Option.some.injEq, isEmpty_snoc, cutD_init, List.contains_nil, List.drop_succ_cons, List.take_succ_cons, sl, Nat.reduceAdd, Nat.reduceLeDiff, Nat.reduceLT, Int.reduceLT, Int.reduceLE, Int.reduceAdd, Int.reduceSub, Int.reduceMul, Int.reduceEq, eq_self, Nat.zero_add, decide_true, decide_false, cutD_map]
  rw [cutD_take _ (show (0 : Int) ≤ k by omega), cutD_drop _ (show (0 : Int) ≤ (k : Int) + 1 by omega), show ((k : Int)).toNat = k by omega, show ((k : Int) + 1).toNat = k + 1 by omega]
  have := k18_2f (C := C) (D := { D with nx := fun ρ M => r_law_12 C D ρ M }) (C' := fun _ => True) (fun _ => trivial) (s0 := s0) (s2 := .val (.int t)) (s3 := s3) (s4 := s4) (s5 := s5) (s6 := s6) (s7 := .val (.tuple (intL data))) (s8 := .val (.int k)) (s9 := .val (.int byte)) (s15 := s15) (s16 := s16) (s17 := s17) (s18 := s18) (s19 := s19)
    [data, data.take k, data.take k ++ [byte] ++ data.drop (k + 1), [byte] ++ data, [byte, 0] ++ data, [192, 191], [192, 192], [193, 0, 5], [193, 1, 0]] s10 s11 s12 s13 s14 (fun s hs => ?_) fun s10 s11 s12 s13 s14 => k18_r12 hb ht fun s6 s8 s9 s14 s15 s16 s17 s18 s19 => q _ _ _ _ _ _ _ _ _ _ _ _ _
  · have q1 : (List.take k (intL data)).length ≤ 5000 := by rw [intL_take, List.length_map, List.length_take]; omega
    have q2 : (List.drop (k + 1) (intL data)).length ≤ 5000 := by rw [intL_drop, List.length_map, List.length_drop]; omega
    simp only [intL, List.map_append, List.map_take, List.map_drop, List.map_cons, List.map_nil, List.cons_append, List.nil_append, List.length_map, List.length_append, List.length_cons, List.length_nil] at this q1 q2 ⊢
    refine ⟨by omega, by omega, by omega, by omega, this⟩
  · simp only [List.mem_cons, List.not_mem_nil, or_false] at hs
    rcases hs with rfl | rfl | rfl | rfl | rfl | rfl | rfl | rfl | rfl
    · exact ⟨hd, by omega⟩
    · exact ⟨rng_take hd, by simp; omega⟩
    · exact ⟨rng_app (rng_app (rng_take hd) (rng_one hb)) (rng_drop hd), by simp; omega⟩
    · exact ⟨rng_app (rng_one hb) hd, by simp; omega⟩
    · refine ⟨rng_app (fun y hy => ?_) hd, by simp; omega⟩
      rcases List.mem_cons.mp hy with rfl | hy
      · exact hb
      · rw [List.mem_singleton.mp hy]; decide
    · decide
    · decide
    · decide
    · decide
theorem k18_r14 {data : List Int} (hd : ∀ b ∈ data, 0 ≤ b ∧ b < 256) (hdl : data.length ≤ 5000) (h0 : 0 < data.length) {t : Int} (ht : 0 ≤ t) {s0 s3 s4 s5 s6 s8 s9 s10 s11 s12 s13 s14 s15 s16 s17 s18 s19 : DV}
    (q : ∀ s6 s8 s9 s10 s11 s12 s13 s14 s15 s16 s17 s18 s19, D.nx [s0, .ref 0, .val (.int t), s3, s4, s5, s6, .val (.tuple (intL data)), s8, s9, s10, s11, s12, s13, s14, s15, s16, s17, s18, s19] Bx) :
    r_law_14 C D [s0, .ref 0, .val (.int t), s3, s4, s5, s6, .val (.tuple (intL data)), s8, s9, s10, s11, s12, s13, s14, s15, s16, s17, s18, s19] Bx := by
  simp only [r_law_14, dSeq, dAsg, dRet, dRetN, dIfS, dDrop, dPar, dAug, dNext, dBreak, dCont, gN, gT, gs0_nil, gsC_cons, put, slot, dVar, dC, dOp2, dOp1, dTest, asB, dTruth, dNot, dAnd, dOr, dAndV, dOrV, dNotV, dIf, dChain, bOf, vw, vws, mem, mput, dTup, dLst, dLstM, dNil, dCons, vals, dSl, dPart, dNoPart, asI, pSl, pAdd, pSub, pMul, pNeg, pDiv, pMod, pLt, pLe, pGt, pGe, pInt, pIntC, pEq, pNe, pIx, pIsN, pIsNotN, pIsB, pIsNotB, pIn, pNotIn, isNone, dB, pLen, pTupleOf, pListOf, pItems, dBM, dMl, onL, pAppend, pExtend, pPopAt, dFz, asV, gSubL, dIs, isK, dRaise, dMkX, pTru, DV.is, DV.within, dIt, items, dR1, dR2, rangeD, dFor, dForT, dLc, dLcM, wipeD, dYes, dCall, refsOf, inn, back, wb, outn, List.map_cons, List.map_nil, List.length_cons, List.length_nil, List.cons_append, List.nil_append, List.append_nil, List.drop_nil, List.take_nil, List.drop_zero, true_and, and_true, if_true, ite_true, forall_const, Bool.not_true, Bool.not_false, Bool.false_eq_true, if_false, shp_int, shp_none, shp_bool, shp_nil, eqv_int, eqv_list_nil, atI_last, atI_0, atI_1, atI_2, atI_3, map_val_int, Int.reduceNeg, atI_map, pMax, pMin, pSum, pAll, pAny, pToInt, pAbs, exists_eq_left', exists_eq_left, Option.some.injEq, isEmpty_snoc, cutD_init, List.contains_nil, List.drop_succ_cons, List.take_succ_cons, sl, Nat.reduceAdd, Nat.reduceLeDiff, Nat.reduceLT, Int.reduceLT, Int.reduceLE, Int.reduceAdd, Int.reduceSub, Int.reduceMul, Int.reduceEq, eq_self, Nat.zero_add, decide_true, decide_false, List.length_map]
  intro _
  refine draw_box (data.length : Int) (by omega) (by omega) rfl rfl fun d d0 d1 => ?_
  simp only [dSeq, dAsg, dRet, dRetN, dIfS, dDrop, dPar, dAug, dNext, dBreak, dCont, gN, gT, gs0_nil, gsC_cons, put, slot, dVar, dC, dOp2, dOp1, dTest, asB, dTruth, dNot, dAnd, dOr, dAndV, dOrV, dNotV, dIf, dChain, bOf, vw, vws, mem, mput, dTup, dLst, dLstM, dNil, dCons, vals, dSl, dPart, dNoPart, asI, pSl, pAdd, pSub, pMul, pNeg, pDiv, pMod, pLt, pLe, pGt, pGe, pInt, pIntC, pEq, pNe, pIx, pIsN, pIsNotN, pIsB, pIsNotB, pIn, pNotIn, isNone, dB, pLen, pTupleOf, pListOf, pItems, dBM, dMl, onL, pAppend, pExtend, pPopAt, dFz, asV, gSubL, dIs, isK, dRaise, dMkX, pTru, DV.is, DV.within, dIt, items, dR1, dR2, rangeD, dFor, dForT, dLc, dLcM, wipeD, dYes, dCall, refsOf, inn, back, wb, outn, List.map_cons, List.map_nil, List.length_cons, List.length_nil, List.cons_append, List.nil_append, List.append_nil, List.drop_nil, List.take_nil, List.drop_zero, true_and, and_true, if_true, ite_true, forall_const, Bool.not_true, Bool.not_false, Bool.false_eq_true, if_false, shp_int, shp_none, shp_bool, shp_nil, eqv_int, eqv_list_nil, atI_last, atI_0, atI_1, atI_2, atI_3, map_val_int, Int.reduceNeg, atI_map, pMax, pMin, pSum, pAll, pAny, pToInt, pAbs, exists_eq_left', exists_eq_left, Option.some.injEq, isEmpty_snoc, cutD_init, List.contains_nil, List.drop_succ_cons, List.take_succ_cons, sl, Nat.reduceAdd, Nat.reduceLeDiff, Nat.reduceLT, Int.reduceLT, Int.reduceLE, Int.reduceAdd, Int.reduceSub, Int.reduceMul, Int.reduceEq, eq_self, Nat.zero_add, decide_true, decide_false]
  refine draw_box 256 (by decide) (by decide) rfl rfl fun v v0 v1 => ?_
  simp only [dSeq, dAsg, dRet, dRetN, dIfS, dDrop, dPar, dAug, dNext, dBreak, dCont, gN, gT, gs0_nil, gsC_cons, put, slot, dVar, dC, dOp2, dOp1, dTest, asB, dTruth, dNot, dAnd, dOr, dAndV, dOrV, dNotV, dIf, dChain, bOf, vw, vws, mem, mput, dTup, dLst, dLstM, dNil, dCons, vals, dSl, dPart, dNoPart, asI, pSl, pAdd, pSub, pMul, pNeg, pDiv, pMod, pLt, pLe, pGt, pGe, pInt, pIntC, pEq, pNe, pIx, pIsN, pIsNotN, pIsB, pIsNotB, pIn, pNotIn, isNone, dB, pLen, pTupleOf, pListOf, pItems, dBM, dMl, onL, pAppend, pExtend, pPopAt, dFz, asV, gSubL, dIs, isK, dRaise, dMkX, pTru, DV.is, DV.within, dIt, items, dR1, dR2, rangeD, dFor, dForT, dLc, dLcM, wipeD, dYes, dCall, refsOf, inn, back, wb, outn, List.map_cons, List.map_nil, List.length_cons, List.length_nil, List.cons_append, List.nil_append, List.append_nil, List.drop_nil, List.take_nil, List.drop_zero, true_and, and_true, if_true, ite_true, forall_const, Bool.not_true, Bool.not_false, Bool.false_eq_true, if_false, shp_int, shp_none, shp_bool, shp_nil, eqv_int, eqv_list_nil, atI_last, atI_0, atI_1, atI_2, atI_3, map_val_int, Int.reduceNeg, atI_map, pMax, pMin, pSum, pAll, pAny, pToInt, pAbs, exists_eq_left', exists_eq_left, Option.some.injEq, isEmpty_snoc, cutD_init, List.contains_nil, List.drop_succ_cons, List.take_succ_cons, sl, Nat.reduceAdd, Nat.reduceLeDiff, Nat.reduceLT, Int.reduceLT, Int.reduceLE, Int.reduceAdd, Int.reduceSub, Int.reduceMul, Int.reduceEq, eq_self, Nat.zero_add, decide_true, decide_false]
  refine draw_box 4 (by decide) (by decide) rfl rfl fun j j0 j1 => ?_
  simp only [dSeq, dAsg, dRet, dRetN, dIfS, dDrop, dPar, dAug, dNext, dBreak, dCont, gN, gT, gs0_nil, gsC_cons, put, slot, dVar, dC, dOp2, dOp1, dTest, asB, dTruth, dNot, dAnd, dOr, dAndV, dOrV, dNotV, dIf, dChain, bOf, vw, vws, mem, mput, dTup, dLst, dLstM, dNil, dCons, vals, dSl, dPart, dNoPart, asI, pSl, pAdd, pSub, pMul, pNeg, pDiv, pMod, pLt, pLe, pGt, pGe, pInt, pIntC, pEq, pNe, pIx, pIsN, pIsNotN, pIsB, pIsNotB, pIn, pNotIn, isNone, dB, pLen, pTupleOf, pListOf, pItems, dBM, dMl, onL, pAppend, pExtend, pPopAt, dFz, asV, gSubL, dIs, isK, dRaise, dMkX, pTru, DV.is, DV.within, dIt, items, dR1, dR2, rangeD, dFor, dForT, dLc, dLcM, wipeD, dYes, dCall, refsOf, inn, back, wb, outn, List.map_cons, List.map_nil, List.length_cons, List.length_nil, List.cons_append, List.nil_append, List.append_nil, List.drop_nil, List.take_nil, List.drop_zero, true_and, and_true, if_true, ite_true, forall_const, Bool.not_true, Bool.not_false, Bool.false_eq_true, if_false, shp_int, shp_none, shp_bool, shp_nil, eqv_int, eqv_list_nil, atI_last, atI_0, atI_1, atI_2, atI_3, map_val_int, Int.reduceNeg, atI_map, pMax, pMin, pSum, pAll, pAny, pToInt, pAbs, exists_eq_left', exists_eq_left, Option.some.injEq, isEmpty_snoc, cutD_init, List.contains_nil, List.drop_succ_cons, List.take_succ_cons, sl, Nat.reduceAdd, Nat.reduceLeDiff, Nat.reduceLT, Int.reduceLT, Int.reduceLE, Int.reduceAdd, Int.reduceSub, Int.reduceMul, Int.reduceEq, eq_self, Nat.zero_add, decide_true, decide_false]
  obtain ⟨z, ez, hz⟩ := at4 j0 j1 v 192 193 255
  obtain ⟨a, ea⟩ : ∃ a : Nat, d = a := ⟨d.toNat, by omega⟩
  subst ea
  exact ⟨_, ez, k18_r13 hd hdl (by omega) ht q⟩
theorem k18_r15 {ns : List Nat} (hns : ∀ n ∈ ns, n < 256 ^ 64) (hnl : ns.length ≤ 10) {head data : List Int} (hh : head.length < data.length) (hd : ∀ b ∈ data, 0 ≤ b ∧ b < 256) (hdl : data.length ≤ 5000) {t : Int} (ht : 0 ≤ t) {s0 s5 s6 s8 s9 s10 s11 s12 s13 s14 s15 s16 s17 s18 s19 : DV}
    (q : ∀ s6 s8 s9 s10 s11 s12 s13 s14 s15 s16 s17 s18 s19, D.nx [s0, .ref 0, .val (.int t), .val (.list (natL ns)), .val (.tuple (intL head)), s5, s6, .val (.tuple (intL data)), s8, s9, s10, s11, s12, s13, s14, s15, s16, s17, s18, s19] Bx) :
    r_law_15 C D [s0, .ref 0, .val (.int t), .val (.list (natL ns)), .val (.tuple (intL head)), s5, s6, .val (.tuple (intL data)), s8, s9, s10, s11, s12, s13, s14, s15, s16, s17, s18, s19] Bx := by
  simp only [natL, intL, List.map_map] at q
  simp only [r_law_15, natL, dSeq, dAsg, dRet, dRetN, dIfS, dDrop, dPar, dAug, dNext, dBreak, dCont, gN, gT, gs0_nil, gsC_cons, put, slot, dVar, dC, dOp2, dOp1, dTest, asB, dTruth, dNot, dAnd, dOr, dAndV, dOrV, dNotV, dIf, dChain, bOf, vw, vws, mem, mput, dTup, dLst, dLstM, dNil, dCons, vals, dSl, dPart, dNoPart, asI, pSl, pAdd, pSub, pMul, pNeg, pDiv, pMod, pLt, pLe, pGt, pGe, pInt, pIntC, pEq, pNe, pIx, pIsN, pIsNotN, pIsB, pIsNotB, pIn, pNotIn, isNone, dB, pLen, pTupleOf, pListOf, pItems, dBM, dMl, onL, pAppend, pExtend, pPopAt, dFz, asV, gSubL, dIs, isK, dRaise, dMkX, pTru, DV.is, DV.within, dIt, items, dR1, dR2, rangeD, dFor, dForT, dLc, dLcM, wipeD, dYes, dCall, refsOf, inn, back, wb, outn, List.map_cons, List.map_nil, List.length_cons, List.length_nil, List.cons_append, List.nil_append, List.append_nil, List.drop_nil, List.take_nil, List.drop_zero, true_and, and_true, if_true, ite_true, forall_const, Bool.not_true, Bool.not_false, Bool.false_eq_true, if_false, shp_int, shp_none, shp_bool, shp_nil, eqv_int, eqv_list_nil, atI_last, atI_0, atI_1, atI_2, atI_3, map_val_int, Int.reduceNeg, atI_map, pMax, pMin, pSum, pAll, pAny, pToInt, pAbs, exists_eq_left', exists_eq_left, Option.some.injEq, isEmpty_snoc, cutD_init, List.contains_nil, List.drop_succ_cons, List.take_succ_cons, sl, Nat.reduceAdd, Nat.reduceLeDiff, Nat.reduceLT, Int.reduceLT, Int.reduceLE, Int.reduceAdd, Int.reduceSub, Int.reduceMul, Int.reduceEq, eq_self, Nat.zero_add, decide_true, decide_false, List.map_map]
  refine lcL_of (fun n : Nat => vI n) (fun _ => .bool true) trivial ns (by rw [sl]; omega) (fun n hn R R' kk => ?_) ?_
  · simp only [x_law_3, dSeq, dAsg, dRet, dRetN, dIfS, dDrop, dPar, dAug, dNext, dBreak, dCont, gN, gT, gs0_nil, gsC_cons, put, slot, dVar, dC, dOp2, dOp1, dTest, asB, dTruth, dNot, dAnd, dOr, dAndV, dOrV, dNotV, dIf, dChain, bOf, vw, vws, mem, mput, dTup, dLst, dLstM, dNil, dCons, vals, dSl, dPart, dNoPart, asI, pSl, pAdd, pSub, pMul, pNeg, pDiv, pMod, pLt, pLe, pGt, pGe, pInt, pIntC, pEq, pNe, pIx, pIsN, pIsNotN, pIsB, pIsNotB, pIn, pNotIn, isNone, dB, pLen, pTupleOf, pListOf, pItems, dBM, dMl, onL, pAppend, pExtend, pPopAt, dFz, asV, gSubL, dIs, isK, dRaise, dMkX, pTru, DV.is, DV.within, dIt, items, dR1, dR2, rangeD, dFor, dForT, dLc, dLcM, wipeD, dYes, dCall, refsOf, inn, back, wb, outn, List.map_cons, List.map_nil, List.length_cons, List.length_nil, List.cons_append, List.nil_append, List.append_nil, List.drop_nil, List.take_nil, List.drop_zero, true_and, and_true, if_true, ite_true, forall_const, Bool.not_true, Bool.not_false, Bool.false_eq_true, if_false, shp_int, shp_none, shp_bool, shp_nil, eqv_int, eqv_list_nil, atI_last, atI_0, atI_1, atI_2, atI_3, map_val_int, Int.reduceNeg, atI_map, pMax, pMin, pSum, pAll, pAny, pToInt, pAbs, exists_eq_left', exists_eq_left, Option.some.injEq, isEmpty_snoc, cutD_init, List.contains_nil, List.drop_succ_cons, List.take_succ_cons, sl, Nat.reduceAdd, Nat.reduceLeDiff, Nat.reduceLT, Int.reduceLT, Int.reduceLE, Int.reduceAdd, Int.reduceSub, Int.reduceMul, Int.reduceEq, eq_self, Nat.zero_add, decide_true, decide_false]
    refine spec_number_bytes n (hns n hn) ?_
    simp only [dSeq, dAsg, dRet, dRetN, dIfS, dDrop, dPar, dAug, dNext, dBreak, dCont, gN, gT, gs0_nil, gsC_cons, put, slot, dVar, dC, dOp2, dOp1, dTest, asB, dTruth, dNot, dAnd, dOr, dAndV, dOrV, dNotV, dIf, dChain, bOf, vw, vws, mem, mput, dTup, dLst, dLstM, dNil, dCons, vals, dSl, dPart, dNoPart, asI, pSl, pAdd, pSub, pMul, pNeg, pDiv, pMod, pLt, pLe, pGt, pGe, pInt, pIntC, pEq, pNe, pIx, pIsN, pIsNotN, pIsB, pIsNotB, pIn, pNotIn, isNone, dB, pLen, pTupleOf, pListOf, pItems, dBM, dMl, onL, pAppend, pExtend, pPopAt, dFz, asV, gSubL, dIs, isK, dRaise, dMkX, pTru, DV.is, DV.within, dIt, items, dR1, dR2, rangeD, dFor, dForT, dLc, dLcM, wipeD, dYes, dCall, refsOf, inn, back, wb, outn, List.map_cons, List.map_nil, List.length_cons, List.length_nil, List.cons_append, List.nil_append, List.append_nil, List.drop_nil, List.take_nil, List.drop_zero, true_and, and_true, if_true, ite_true, forall_const, Bool.not_true, Bool.not_false, Bool.false_eq_true, if_false, shp_int, shp_none, shp_bool, shp_nil, eqv_int, eqv_list_nil, atI_last, atI_0, atI_1, atI_2, atI_3, map_val_int, Int.reduceNeg, atI_map, pMax, pMin, pSum, pAll, pAny, pToInt, pAbs, exists_eq_left', exists_eq_left, Option.some.injEq, isEmpty_snoc, cutD_init, List.contains_nil, List.drop_succ_cons, List.take_succ_cons, sl, Nat.reduceAdd, Nat.reduceLeDiff, Nat.reduceLT, Int.reduceLT, Int.reduceLE, Int.reduceAdd, Int.reduceSub, Int.reduceMul, Int.reduceEq, eq_self, Nat.zero_add, decide_true, decide_false]
    refine spec__law_number n (hns n hn) ?_
    simp only [dSeq, dAsg, dRet, dRetN, dIfS, dDrop, dPar, dAug, dNext, dBreak, dCont, gN, gT, gs0_nil, gsC_cons, put, slot, dVar, dC, dOp2, dOp1, dTest, asB, dTruth, dNot, dAnd, dOr, dAndV, dOrV, dNotV, dIf, dChain, bOf, vw, vws, mem, mput, dTup, dLst, dLstM, dNil, dCons, vals, dSl, dPart, dNoPart, asI, pSl, pAdd, pSub, pMul, pNeg, pDiv, pMod, pLt, pLe, pGt, pGe, pInt, pIntC, pEq, pNe, pIx, pIsN, pIsNotN, pIsB, pIsNotB, pIn, pNotIn, isNone, dB, pLen, pTupleOf, pListOf, pItems, dBM, dMl, onL, pAppend, pExtend, pPopAt, dFz, asV, gSubL, dIs, isK, dRaise, dMkX, pTru, DV.is, DV.within, dIt, items, dR1, dR2, rangeD, dFor, dForT, dLc, dLcM, wipeD, dYes, dCall, refsOf, inn, back, wb, outn, List.map_cons, List.map_nil, List.length_cons, List.length_nil, List.cons_append, List.nil_append, List.append_nil, List.drop_nil, List.take_nil, List.drop_zero, true_and, and_true, if_true, ite_true, forall_const, Bool.not_true, Bool.not_false, Bool.false_eq_true, if_false, shp_int, shp_none, shp_bool, shp_nil, eqv_int, eqv_list_nil, atI_last, atI_0, atI_1, atI_2, atI_3, map_val_int, Int.reduceNeg, atI_map, pMax, pMin, pSum, pAll, pAny, pToInt, pAbs, exists_eq_left', exists_eq_left, Option.some.injEq, isEmpty_snoc, cutD_init, List.contains_nil, List.drop_succ_cons, List.take_succ_cons, sl, Nat.reduceAdd, Nat.reduceLeDiff, Nat.reduceLT, Int.reduceLT, Int.reduceLE, Int.reduceAdd, Int.reduceSub, Int.reduceMul, Int.reduceEq, eq_self, Nat.zero_add, decide_true, decide_false]
    refine same_of (n := 1) (sh_intLs _) (by decide) ?_
    simp only [dSeq, dAsg, dRet, dRetN, dIfS, dDrop, dPar, dAug, dNext, dBreak, dCont, gN, gT, gs0_nil, gsC_cons, put, slot, dVar, dC, dOp2, dOp1, dTest, asB, dTruth, dNot, dAnd, dOr, dAndV, dOrV, dNotV, dIf, dChain, bOf, vw, vws, mem, mput, dTup, dLst, dLstM, dNil, dCons, vals, dSl, dPart, dNoPart, asI, pSl, pAdd, pSub, pMul, pNeg, pDiv, pMod, pLt, pLe, pGt, pGe, pInt, pIntC, pEq, pNe, pIx, pIsN, pIsNotN, pIsB, pIsNotB, pIn, pNotIn, isNone, dB, pLen, pTupleOf, pListOf, pItems, dBM, dMl, onL, pAppend, pExtend, pPopAt, dFz, asV, gSubL, dIs, isK, dRaise, dMkX, pTru, DV.is, DV.within, dIt, items, dR1, dR2, rangeD, dFor, dForT, dLc, dLcM, wipeD, dYes, dCall, refsOf, inn, back, wb, outn, List.map_cons, List.map_nil, List.length_cons, List.length_nil, List.cons_append, List.nil_append, List.append_nil, List.drop_nil, List.take_nil, List.drop_zero, true_and, and_true, if_true, ite_true, forall_const, Bool.not_true, Bool.not_false, Bool.false_eq_true, if_false, shp_int, shp_none, shp_bool, shp_nil, eqv_int, eqv_list_nil, atI_last, atI_0, atI_1, atI_2, atI_3, map_val_int, Int.reduceNeg, atI_map, pMax, pMin, pSum, pAll, pAny, pToInt, pAbs, exists_eq_left', exists_eq_left, Option.some.injEq, isEmpty_snoc, cutD_init, List.contains_nil, List.drop_succ_cons, List.take_succ_cons, sl, Nat.reduceAdd, Nat.reduceLeDiff, Nat.reduceLT, Int.reduceLT, Int.reduceLE, Int.reduceAdd, Int.reduceSub, Int.reduceMul, Int.reduceEq, eq_self, Nat.zero_add, decide_true, decide_false]
    exact kk
  · refine all_true (fun d hd => ?_) ?_
    · obtain ⟨_, _, rfl⟩ := List.mem_map.mp hd; rfl
    · have : ((ns.map fun _ => PyData.bool true).map fun _ => true).all id = true := by
        rw [List.all_eq_true]
        intro b hb
        obtain ⟨_, _, rfl⟩ := List.mem_map.mp hb; rfl
      simp only [this, dSeq, dAsg, dRet, dRetN, dIfS, dDrop, dPar, dAug, dNext, dBreak, dCont, gN, gT, gs0_nil, gsC_cons, put, slot, dVar, dC, dOp2, dOp1, dTest, asB, dTruth, dNot, dAnd, dOr, dAndV, dOrV, dNotV, dIf, dChain, bOf, vw, vws, mem, mput, dTup, dLst, dLstM, dNil, dCons, vals, dSl, dPart, dNoPart, asI, pSl, pAdd, pSub, pMul, pNeg, pDiv, pMod, pLt, pLe, pGt, pGe, pInt, pIntC, pEq, pNe, pIx, pIsN, pIsNotN, pIsB, pIsNotB, pIn, pNotIn, isNone, dB, pLen, pTupleOf, pListOf, pItems, dBM, dMl, onL, pAppend, pExtend, pPopAt, dFz, asV, gSubL, dIs, isK, dRaise, dMkX, pTru, DV.is, DV.within, dIt, items, dR1, dR2, rangeD, dFor, dForT, dLc, dLcM, wipeD, dYes, dCall, refsOf, inn, back, wb, outn, List.map_cons, List.map_nil, List.length_cons, List.length_nil, List.cons_append, List.nil_append, List.append_nil, List.drop_nil, List.take_nil, List.drop_zero, true_and, and_true, if_true, ite_true, forall_const, Bool.not_true, Bool.not_false, Bool.false_eq_true, if_false, shp_int, shp_none, shp_bool, shp_nil, eqv_int, eqv_list_nil, atI_last, atI_0, atI_1, atI_2, atI_3, map_val_int, Int.reduceNeg, atI_map, pMax, pMin, pSum, pAll, pAny, pToInt, pAbs, exists_eq_left', exists_eq_left, Option.some.injEq, isEmpty_snoc, cutD_init, List.contains_nil, List.drop_succ_cons, List.take_succ_cons, sl, Nat.reduceAdd, Nat.reduceLeDiff, Nat.reduceLT, Int.reduceLT, Int.reduceLE, Int.reduceAdd, Int.reduceSub, Int.reduceMul, Int.reduceEq, eq_self, Nat.zero_add, decide_true, decide_false, List.length_map]
      intro _
      have hg : data[head.length]? = some data[head.length] := List.getElem?_eq_getElem hh
      refine spec_byte_at data (head.length : Int) (by omega) (fun v hv => ?_) fun hz => by omega
      have hv' : data[head.length]? = some v := by simpa using hv
      have ev : atI data (head.length : Int) = some v := by rw [atI_nat _ _ hh]; exact hv'
      simp only [ev, Option.map_some, dSeq, dAsg, dRet, dRetN, dIfS, dDrop, dPar, dAug, dNext, dBreak, dCont, gN, gT, gs0_nil, gsC_cons, put, slot, dVar, dC, dOp2, dOp1, dTest, asB, dTruth, dNot, dAnd, dOr, dAndV, dOrV, dNotV, dIf, dChain, bOf, vw, vws, mem, mput, dTup, dLst, dLstM, dNil, dCons, vals, dSl, dPart, dNoPart, asI, pSl, pAdd, pSub, pMul, pNeg, pDiv, pMod, pLt, pLe, pGt, pGe, pInt, pIntC, pEq, pNe, pIx, pIsN, pIsNotN, pIsB, pIsNotB, pIn, pNotIn, isNone, dB, pLen, pTupleOf, pListOf, pItems, dBM, dMl, onL, pAppend, pExtend, pPopAt, dFz, asV, gSubL, dIs, isK, dRaise, dMkX, pTru, DV.is, DV.within, dIt, items, dR1, dR2, rangeD, dFor, dForT, dLc, dLcM, wipeD, dYes, dCall, refsOf, inn, back, wb, outn, List.map_cons, List.map_nil, List.length_cons, List.length_nil, List.cons_append, List.nil_append, List.append_nil, List.drop_nil, List.take_nil, List.drop_zero, true_and, and_true, if_true, ite_true, forall_const, Bool.not_true, Bool.not_false, Bool.false_eq_true, if_false, shp_int, shp_none, shp_bool, shp_nil, eqv_int, eqv_list_nil, atI_last, atI_0, atI_1, atI_2, atI_3, map_val_int, Int.reduceNeg, atI_map, pMax, pMin, pSum, pAll, pAny, pToInt, pAbs, exists_eq_left', exists_eq_left, Option.some.injEq, isEmpty_snoc, cutD_init, List.contains_nil, List.drop_succ_cons, List.take_succ_cons, sl, Nat.reduceAdd, Nat.reduceLeDiff, Nat.reduceLT, Int.reduceLT, Int.reduceLE, Int.reduceAdd, Int.reduceSub, Int.reduceMul, Int.reduceEq, eq_self, Nat.zero_add, decide_true, decide_false, List.length_map]
      intro _
      refine same_of (n := 0) (sh_int _) (by decide) ?_
      simp only [dSeq, dAsg, dRet, dRetN, dIfS, dDrop, dPar, dAug, dNext, dBreak, dCont, gN, gT, gs0_nil, gsC_cons, put, slot, dVar, dC, dOp2, dOp1, dTest, asB, dTruth, dNot, dAnd, dOr, dAndV, dOrV, dNotV, dIf, dChain, bOf, vw, vws, mem, mput, dTup, dLst, dLstM, dNil, dCons, vals, dSl, dPart, dNoPart, asI, pSl, pAdd, pSub, pMul, pNeg, pDiv, pMod, pLt, pLe, pGt, pGe, pInt, pIntC, pEq, pNe, pIx, pIsN, pIsNotN, pIsB, pIsNotB, pIn, pNotIn, isNone, dB, pLen, pTupleOf, pListOf, pItems, dBM, dMl, onL, pAppend, pExtend, pPopAt, dFz, asV, gSubL, dIs, isK, dRaise, dMkX, pTru, DV.is, DV.within, dIt, items, dR1, dR2, rangeD, dFor, dForT, dLc, dLcM, wipeD, dYes, dCall, refsOf, inn, back, wb, outn, List.map_cons, List.map_nil, List.length_cons, List.length_nil, List.cons_append, List.nil_append, List.append_nil, List.drop_nil, List.take_nil, List.drop_zero, true_and, and_true, if_true, ite_true, forall_const, Bool.not_true, Bool.not_false, Bool.false_eq_true, if_false, shp_int, shp_none, shp_bool, shp_nil, eqv_int, eqv_list_nil, atI_last, atI_0, atI_1, atI_2, atI_3, map_val_int, Int.reduceNeg, atI_map, pMax, pMin, pSum, pAll, pAny, pToInt, pAbs, exists_eq_left', exists_eq_left, Option.some.injEq, isEmpty_snoc, cutD_init, List.contains_nil, List.drop_succ_cons, List.take_succ_cons, sl, Nat.reduceAdd, Nat.reduceLeDiff, Nat.reduceLT, Int.reduceLT, Int.reduceLE, Int.reduceAdd, Int.reduceSub, Int.reduceMul, Int.reduceEq, eq_self, Nat.zero_add, decide_true, decide_false]
      exact k18_r14 hd hdl (by omega) ht q
/-- numbers told one behind the other -/
theorem k18_1f (hC : ∀ M, C' M) {s0 s2 s3 s4 s7 s8 s9 s10 s11 s12 s13 s14 s15 s16 s17 s18 s19 : DV} : ∀ (ns : List Nat) (found : List Int) (s6 : DV), (∀ n ∈ ns, n < 256 ^ 64) → found.length + 65 * ns.length ≤ 1000000 →
    (∀ s6, D.nx [s0, .ref 0, s2, s3, s4, .val (.list (intL (found ++ numsB ns))), s6, s7, s8, s9, s10, s11, s12, s13, s14, s15, s16, s17, s18, s19] Bx) →
    forL (gN 6) (b_law_1 C) D C' (ns.map fun n : Nat => vI n) [s0, .ref 0, s2, s3, s4, .val (.list (intL found)), s6, s7, s8, s9, s10, s11, s12, s13, s14, s15, s16, s17, s18, s19] Bx
  | [], found, s6, _, _, q => ⟨hC _, by have := q s6; simp only [numsB, List.flatMap_nil, List.append_nil] at this; exact this⟩
  | n :: ns, found, s6, hn, hf, q => by
    refine ⟨hC _, ?_⟩
    have hl := numB_len n (hn n List.mem_cons_self)
    simp only [List.length_cons] at hf
    have ih := k18_1f hC (s0 := s0) (s2 := s2) (s3 := s3) (s4 := s4) (s7 := s7) (s8 := s8) (s9 := s9) (s10 := s10) (s11 := s11) (s12 := s12) (s13 := s13) (s14 := s14) (s15 := s15) (s16 := s16) (s17 := s17) (s18 := s18) (s19 := s19) ns (found ++ numB n) (vI n) (fun m hm => hn m (List.mem_cons_of_mem _ hm)) (by rw [List.length_append]; omega) fun x' => by
      have := q x'
      simp only [numsB, List.flatMap_cons, ← List.append_assoc] at this
      exact this
    show b_law_1 C { D with nx := forL (gN 6) (b_law_1 C) D C' (ns.map fun n : Nat => vI n), ct := forL (gN 6) (b_law_1 C) D C' (ns.map fun n : Nat => vI n), bk := D.nx } [s0, .ref 0, s2, s3, s4, .val (.list (intL found)), vI n, s7, s8, s9, s10, s11, s12, s13, s14, s15, s16, s17, s18, s19] Bx
    generalize forL (gN 6) (b_law_1 C) D C' (ns.map fun n : Nat => vI n) = K at ih ⊢
    simp only [b_law_1, dSeq, dAsg, dRet, dRetN, dIfS, dDrop, dPar, dAug, dNext, dBreak, dCont, gN, gT, gs0_nil, gsC_cons, put, slot, dVar, dC, dOp2, dOp1, dTest, asB, dTruth, dNot, dAnd, dOr, dAndV, dOrV, dNotV, dIf, dChain, bOf, vw, vws, mem, mput, dTup, dLst, dLstM, dNil, dCons, vals, dSl, dPart, dNoPart, asI, pSl, pAdd, pSub, pMul, pNeg, pDiv, pMod, pLt, pLe, pGt, pGe, pInt, pIntC, pEq, pNe, pIx, pIsN, pIsNotN, pIsB, pIsNotB, pIn, pNotIn, isNone, dB, pLen, pTupleOf, pListOf, pItems, dBM, dMl, onL, pAppend, pExtend, pPopAt, dFz, asV, gSubL, dIs, isK, dRaise, dMkX, pTru, DV.is, DV.within, dIt, items, dR1, dR2, rangeD, dFor, dForT, dLc, dLcM, wipeD, dYes, dCall, refsOf, inn, back, wb, outn, List.map_cons, List.map_nil, List.length_cons, List.length_nil, List.cons_append, List.nil_append, List.append_nil, List.drop_nil, List.take_nil, List.drop_zero, true_and, and_true, if_true, ite_true, forall_const, Bool.not_true, Bool.not_false, Bool.false_eq_true, if_false, shp_int, shp_none, shp_bool, shp_nil, eqv_int, eqv_list_nil, atI_last, atI_0, atI_1, atI_2, atI_3, map_val_int, Int.reduceNeg, atI_map, pMax, pMin, pSum, pAll, pAny, pToInt, pAbs, exists_eq_left', exists_eq_left, Option.some.injEq, isEmpty_snoc, cutD_init, List.contains_nil, List.drop_succ_cons, List.take_succ_cons, sl, Nat.reduceAdd, Nat.reduceLeDiff, Nat.reduceLT, Int.reduceLT, Int.reduceLE, Int.reduceAdd, Int.reduceSub, Int.reduceMul, Int.reduceEq, eq_self, Nat.zero_add, decide_true, decide_false]
    refine spec__law_number n (hn n List.mem_cons_self) ?_
    simp only [dSeq, dAsg, dRet, dRetN, dIfS, dDrop, dPar, dAug, dNext, dBreak, dCont, gN, gT, gs0_nil, gsC_cons, put, slot, dVar, dC, dOp2, dOp1, dTest, asB, dTruth, dNot, dAnd, dOr, dAndV, dOrV, dNotV, dIf, dChain, bOf, vw, vws, mem, mput, dTup, dLst, dLstM, dNil, dCons, vals, dSl, dPart, dNoPart, asI, pSl, pAdd, pSub, pMul, pNeg, pDiv, pMod, pLt, pLe, pGt, pGe, pInt, pIntC, pEq, pNe, pIx, pIsN, pIsNotN, pIsB, pIsNotB, pIn, pNotIn, isNone, dB, pLen, pTupleOf, pListOf, pItems, dBM, dMl, onL, pAppend, pExtend, pPopAt, dFz, asV, gSubL, dIs, isK, dRaise, dMkX, pTru, DV.is, DV.within, dIt, items, dR1, dR2, rangeD, dFor, dForT, dLc, dLcM, wipeD, dYes, dCall, refsOf, inn, back, wb, outn, List.map_cons, List.map_nil, List.length_cons, List.length_nil, List.cons_append, List.nil_append, List.append_nil, List.drop_nil, List.take_nil, List.drop_zero, true_and, and_true, if_true, ite_true, forall_const, Bool.not_true, Bool.not_false, Bool.false_eq_true, if_false, shp_int, shp_none, shp_bool, shp_nil, eqv_int, eqv_list_nil, atI_last, atI_0, atI_1, atI_2, atI_3, map_val_int, Int.reduceNeg, atI_map, pMax, pMin, pSum, pAll, pAny, pToInt, pAbs, exists_eq_left', exists_eq_left, Option.some.injEq, isEmpty_snoc, cutD_init, List.contains_nil, List.drop_succ_cons, List.take_succ_cons, sl, Nat.reduceAdd, Nat.reduceLeDiff, Nat.reduceLT, Int.reduceLT, Int.reduceLE, Int.reduceAdd, Int.reduceSub, Int.reduceMul, Int.reduceEq, eq_self, Nat.zero_add, decide_true, decide_false, List.length_map]
    simp only [intL, List.map_append] at ih ⊢
    exact ⟨by omega, ih⟩
theorem k18_r19 {ns : List Nat} (hns : ∀ n ∈ ns, n < 256 ^ 64) (hnl : ns.length ≤ 10) {t : Int} (ht : 0 ≤ t) {s0 s4 s5 s6 s7 s8 s9 s10 s11 s12 s13 s14 s15 s16 s17 s18 s19 : DV}
    (q : ∀ s3 s4 s5 s6 s7 s8 s9 s10 s11 s12 s13 s14 s15 s16 s17 s18 s19, D.nx [s0, .ref 0, .val (.int t), s3, s4, s5, s6, s7, s8, s9, s10, s11, s12, s13, s14, s15, s16, s17, s18, s19] Bx) :
    r_law_19 C D [s0, .ref 0, .val (.int t), .val (.list (natL ns)), s4, s5, s6, s7, s8, s9, s10, s11, s12, s13, s14, s15, s16, s17, s18, s19] Bx := by
  simp only [r_law_19, dSeq, dAsg, dRet, dRetN, dIfS, dDrop, dPar, dAug, dNext, dBreak, dCont, gN, gT, gs0_nil, gsC_cons, put, slot, dVar, dC, dOp2, dOp1, dTest, asB, dTruth, dNot, dAnd, dOr, dAndV, dOrV, dNotV, dIf, dChain, bOf, vw, vws, mem, mput, dTup, dLst, dLstM, dNil, dCons, vals, dSl, dPart, dNoPart, asI, pSl, pAdd, pSub, pMul, pNeg, pDiv, pMod, pLt, pLe, pGt, pGe, pInt, pIntC, pEq, pNe, pIx, pIsN, pIsNotN, pIsB, pIsNotB, pIn, pNotIn, isNone, dB, pLen, pTupleOf, pListOf, pItems, dBM, dMl, onL, pAppend, pExtend, pPopAt, dFz, asV, gSubL, dIs, isK, dRaise, dMkX, pTru, DV.is, DV.within, dIt, items, dR1, dR2, rangeD, dFor, dForT, dLc, dLcM, wipeD, dYes, dCall, refsOf, inn, back, wb, outn, List.map_cons, List.map_nil, List.length_cons, List.length_nil, List.cons_append, List.nil_append, List.append_nil, List.drop_nil, List.take_nil, List.drop_zero, true_and, and_true, if_true, ite_true, forall_const, Bool.not_true, Bool.not_false, Bool.false_eq_true, if_false, shp_int, shp_none, shp_bool, shp_nil, eqv_int, eqv_list_nil, atI_last, atI_0, atI_1, atI_2, atI_3, map_val_int, Int.reduceNeg, atI_map, pMax, pMin, pSum, pAll, pAny, pToInt, pAbs, exists_eq_left', exists_eq_left, Option.some.injEq, isEmpty_snoc, cutD_init, List.contains_nil, List.drop_succ_cons, List.take_succ_cons, sl, Nat.reduceAdd, Nat.reduceLeDiff, Nat.reduceLT, Int.reduceLT, Int.reduceLE, Int.reduceAdd, Int.reduceSub, Int.reduceMul, Int.reduceEq, eq_self, Nat.zero_add, decide_true, decide_false]
  refine draw_box 3 (by decide) (by decide) rfl rfl fun d g0 g1 => ?_
  simp only [dSeq, dAsg, dRet, dRetN, dIfS, dDrop, dPar, dAug, dNext, dBreak, dCont, gN, gT, gs0_nil, gsC_cons, put, slot, dVar, dC, dOp2, dOp1, dTest, asB, dTruth, dNot, dAnd, dOr, dAndV, dOrV, dNotV, dIf, dChain, bOf, vw, vws, mem, mput, dTup, dLst, dLstM, dNil, dCons, vals, dSl, dPart, dNoPart, asI, pSl, pAdd, pSub, pMul, pNeg, pDiv, pMod, pLt, pLe, pGt, pGe, pInt, pIntC, pEq, pNe, pIx, pIsN, pIsNotN, pIsB, pIsNotB, pIn, pNotIn, isNone, dB, pLen, pTupleOf, pListOf, pItems, dBM, dMl, onL, pAppend, pExtend, pPopAt, dFz, asV, gSubL, dIs, isK, dRaise, dMkX, pTru, DV.is, DV.within, dIt, items, dR1, dR2, rangeD, dFor, dForT, dLc, dLcM, wipeD, dYes, dCall, refsOf, inn, back, wb, outn, List.map_cons, List.map_nil, List.length_cons, List.length_nil, List.cons_append, List.nil_append, List.append_nil, List.drop_nil, List.take_nil, List.drop_zero, true_and, and_true, if_true, ite_true, forall_const, Bool.not_true, Bool.not_false, Bool.false_eq_true, if_false, shp_int, shp_none, shp_bool, shp_nil, eqv_int, eqv_list_nil, atI_last, atI_0, atI_1, atI_2, atI_3, map_val_int, Int.reduceNeg, atI_map, pMax, pMin, pSum, pAll, pAny, pToInt, pAbs, exists_eq_left', exists_eq_left, Option.some.injEq, isEmpty_snoc, cutD_init, List.contains_nil, List.drop_succ_cons, List.take_succ_cons, sl, Nat.reduceAdd, Nat.reduceLeDiff, Nat.reduceLT, Int.reduceLT, Int.reduceLE, Int.reduceAdd, Int.reduceSub, Int.reduceMul, Int.reduceEq, eq_self, Nat.zero_add, decide_true, decide_false]
  refine ⟨by omega, by omega, ?_⟩
  refine lcL_anyOf (P := fun _ d => ∃ v, d = .int v ∧ 0 ≤ v ∧ v < 256) (fun i : Nat => .val (.int (0 + (i : Nat)))) trivial (List.range d.toNat) [] (by rw [sl]; simp; omega) (fun i hi R R' kk => ?_) fun ds hds => ?_
  · simp only [x_law_2, dSeq, dAsg, dRet, dRetN, dIfS, dDrop, dPar, dAug, dNext, dBreak, dCont, gN, gT, gs0_nil, gsC_cons, put, slot, dVar, dC, dOp2, dOp1, dTest, asB, dTruth, dNot, dAnd, dOr, dAndV, dOrV, dNotV, dIf, dChain, bOf, vw, vws, mem, mput, dTup, dLst, dLstM, dNil, dCons, vals, dSl, dPart, dNoPart, asI, pSl, pAdd, pSub, pMul, pNeg, pDiv, pMod, pLt, pLe, pGt, pGe, pInt, pIntC, pEq, pNe, pIx, pIsN, pIsNotN, pIsB, pIsNotB, pIn, pNotIn, isNone, dB, pLen, pTupleOf, pListOf, pItems, dBM, dMl, onL, pAppend, pExtend, pPopAt, dFz, asV, gSubL, dIs, isK, dRaise, dMkX, pTru, DV.is, DV.within, dIt, items, dR1, dR2, rangeD, dFor, dForT, dLc, dLcM, wipeD, dYes, dCall, refsOf, inn, back, wb, outn, List.map_cons, List.map_nil, List.length_cons, List.length_nil, List.cons_append, List.nil_append, List.append_nil, List.drop_nil, List.take_nil, List.drop_zero, true_and, and_true, if_true, ite_true, forall_const, Bool.not_true, Bool.not_false, Bool.false_eq_true, if_false, shp_int, shp_none, shp_bool, shp_nil, eqv_int, eqv_list_nil, atI_last, atI_0, atI_1, atI_2, atI_3, map_val_int, Int.reduceNeg, atI_map, pMax, pMin, pSum, pAll, pAny, pToInt, pAbs, exists_eq_left', exists_eq_left, Option.some.injEq, isEmpty_snoc, cutD_init, List.contains_nil, List.drop_succ_cons, List.take_succ_cons, sl, Nat.reduceAdd, Nat.reduceLeDiff, Nat.reduceLT, Int.reduceLT, Int.reduceLE, Int.reduceAdd, Int.reduceSub, Int.reduceMul, Int.reduceEq, eq_self, Nat.zero_add, decide_true, decide_false]
    exact draw_box 256 (by decide) (by decide) rfl rfl fun v v0 v1 => kk _ ⟨v, rfl, v0, v1⟩
  · obtain ⟨head, rfl, e2, e3⟩ := all2_intsP hds
    rw [List.length_range] at e2
    have nl := numsB_len ns hns
    have nr : ∀ b ∈ numsB ns, 0 ≤ b ∧ b < 256 := fun b hb => by
      obtain ⟨n, hn, hb⟩ := List.mem_flatMap.mp hb
      exact numB_range n (hns n hn) b hb
    simp only [r_law_18, natL, dSeq, dAsg, dRet, dRetN, dIfS, dDrop, dPar, dAug, dNext, dBreak, dCont, gN, gT, gs0_nil, gsC_cons, put, slot, dVar, dC, dOp2, dOp1, dTest, asB, dTruth, dNot, dAnd, dOr, dAndV, dOrV, dNotV, dIf, dChain, bOf, vw, vws, mem, mput, dTup, dLst, dLstM, dNil, dCons, vals, dSl, dPart, dNoPart, asI, pSl, pAdd, pSub, pMul, pNeg, pDiv, pMod, pLt, pLe, pGt, pGe, pInt, pIntC, pEq, pNe, pIx, pIsN, pIsNotN, pIsB, pIsNotB, pIn, pNotIn, isNone, dB, pLen, pTupleOf, pListOf, pItems, dBM, dMl, onL, pAppend, pExtend, pPopAt, dFz, asV, gSubL, dIs, isK, dRaise, dMkX, pTru, DV.is, DV.within, dIt, items, dR1, dR2, rangeD, dFor, dForT, dLc, dLcM, wipeD, dYes, dCall, refsOf, inn, back, wb, outn, List.map_cons, List.map_nil, List.length_cons, List.length_nil, List.cons_append, List.nil_append, List.append_nil, List.drop_nil, List.take_nil, List.drop_zero, true_and, and_true, if_true, ite_true, forall_const, Bool.not_true, Bool.not_false, Bool.false_eq_true, if_false, shp_int, shp_none, shp_bool, shp_nil, eqv_int, eqv_list_nil, atI_last, atI_0, atI_1, atI_2, atI_3, map_val_int, Int.reduceNeg, atI_map, pMax, pMin, pSum, pAll, pAny, pToInt, pAbs, exists_eq_left', exists_eq_left, Option.some.injEq, isEmpty_snoc, cutD_init, List.contains_nil, List.drop_succ_cons, List.take_succ_cons, sl, Nat.reduceAdd, Nat.reduceLeDiff, Nat.reduceLT, Int.reduceLT, Int.reduceLE, Int.reduceAdd, Int.reduceSub, Int.reduceMul, Int.reduceEq, eq_self, Nat.zero_add, decide_true, decide_false, List.map_map]
    refine k18_1f (fun _ => trivial) ns [] _ hns (by simp; omega) fun s6 => ?_
    rw [List.nil_append]
    have h72 : [PyData.int 7, .int 200] = intL [7, 200] := rfl
    simp only [r_law_17, dSeq, dAsg, dRet, dRetN, dIfS, dDrop, dPar, dAug, dNext, dBreak, dCont, gN, gT, gs0_nil, gsC_cons, put, slot, dVar, dC, dOp2, dOp1, dTest, asB, dTruth, dNot, dAnd, dOr, dAndV, dOrV, dNotV, dIf, dChain, bOf, vw, vws, mem, mput, dTup, dLst, dLstM, dNil, dCons, vals, dSl, dPart, dNoPart, asI, pSl, pAdd, pSub, pMul, pNeg, pDiv, pMod, pLt, pLe, pGt, pGe, pInt, pIntC, pEq, pNe, pIx, pIsN, pIsNotN, pIsB, pIsNotB, pIn, pNotIn, isNone, dB, pLen, pTupleOf, pListOf, pItems, dBM, dMl, onL, pAppend, pExtend, pPopAt, dFz, asV, gSubL, dIs, isK, dRaise, dMkX, pTru, DV.is, DV.within, dIt, items, dR1, dR2, rangeD, dFor, dForT, dLc, dLcM, wipeD, dYes, dCall, refsOf, inn, back, wb, outn, List.map_cons, List.map_nil, List.length_cons, List.length_nil, List.cons_append, List.nil_append, List.append_nil, List.drop_nil, List.take_nil, List.drop_zero, true_and, and_true, if_true, ite_true, forall_const, Bool.not_true, Bool.not_false, Bool.false_eq_true, if_false, shp_int, shp_none, shp_bool, shp_nil, eqv_int, eqv_list_nil, atI_last, atI_0, atI_1, atI_2, atI_3, map_val_int, Int.reduceNeg, atI_map, pMax, pMin, pSum, pAll, pAny, pToInt, pAbs, exists_eq_left', exists_eq_left, Option.some.injEq, isEmpty_snoc, cutD_init, List.contains_nil, List.drop_succ_cons, List.take_succ_cons, sl, Nat.reduceAdd, Nat.reduceLeDiff, Nat.reduceLT, Int.reduceLT, Int.reduceLE, Int.reduceAdd, Int.reduceSub, Int.reduceMul, Int.reduceEq, eq_self, Nat.zero_add, decide_true, decide_false, List.length_map]
    rw [h72, intL_app, intL_app]
    refine ⟨by omega, by simp; omega, ?_⟩
    have hdr : ∀ b ∈ head ++ numsB ns ++ [7, 200], 0 ≤ b ∧ b < 256 := rng_app (rng_app e3 nr) (by decide)
    simp only [r_law_16, dSeq, dAsg, dRet, dRetN, dIfS, dDrop, dPar, dAug, dNext, dBreak, dCont, gN, gT, gs0_nil, gsC_cons, put, slot, dVar, dC, dOp2, dOp1, dTest, asB, dTruth, dNot, dAnd, dOr, dAndV, dOrV, dNotV, dIf, dChain, bOf, vw, vws, mem, mput, dTup, dLst, dLstM, dNil, dCons, vals, dSl, dPart, dNoPart, asI, pSl, pAdd, pSub, pMul, pNeg, pDiv, pMod, pLt, pLe, pGt, pGe, pInt, pIntC, pEq, pNe, pIx, pIsN, pIsNotN, pIsB, pIsNotB, pIn, pNotIn, isNone, dB, pLen, pTupleOf, pListOf, pItems, dBM, dMl, onL, pAppend, pExtend, pPopAt, dFz, asV, gSubL, dIs, isK, dRaise, dMkX, pTru, DV.is, DV.within, dIt, items, dR1, dR2, rangeD, dFor, dForT, dLc, dLcM, wipeD, dYes, dCall, refsOf, inn, back, wb, outn, List.map_cons, List.map_nil, List.length_cons, List.length_nil, List.cons_append, List.nil_append, List.append_nil, List.drop_nil, List.take_nil, List.drop_zero, true_and, and_true, if_true, ite_true, forall_const, Bool.not_true, Bool.not_false, Bool.false_eq_true, if_false, shp_int, shp_none, shp_bool, shp_nil, eqv_int, eqv_list_nil, atI_last, atI_0, atI_1, atI_2, atI_3, map_val_int, Int.reduceNeg, atI_map, pMax, pMin, pSum, pAll, pAny, pToInt, pAbs, exists_eq_left', exists_eq_left, Option.some.injEq, isEmpty_snoc, cutD_init, List.contains_nil, List.drop_succ_cons, List.take_succ_cons, sl, Nat.reduceAdd, Nat.reduceLeDiff, Nat.reduceLT, Int.reduceLT, Int.reduceLE, Int.reduceAdd, Int.reduceSub, Int.reduceMul, Int.reduceEq, eq_self, Nat.zero_add, decide_true, decide_false, List.length_map]
    have enat : List.map (PyData.int ∘ fun n : Nat => (n : Int)) ns = natL ns := by simp only [natL, intL, List.map_map]
    rw [enat]
    refine spec_numbers_bytes ns _ (.inl rfl) hns (by omega) ?_
    simp only [dSeq, dAsg, dRet, dRetN, dIfS, dDrop, dPar, dAug, dNext, dBreak, dCont, gN, gT, gs0_nil, gsC_cons, put, slot, dVar, dC, dOp2, dOp1, dTest, asB, dTruth, dNot, dAnd, dOr, dAndV, dOrV, dNotV, dIf, dChain, bOf, vw, vws, mem, mput, dTup, dLst, dLstM, dNil, dCons, vals, dSl, dPart, dNoPart, asI, pSl, pAdd, pSub, pMul, pNeg, pDiv, pMod, pLt, pLe, pGt, pGe, pInt, pIntC, pEq, pNe, pIx, pIsN, pIsNotN, pIsB, pIsNotB, pIn, pNotIn, isNone, dB, pLen, pTupleOf, pListOf, pItems, dBM, dMl, onL, pAppend, pExtend, pPopAt, dFz, asV, gSubL, dIs, isK, dRaise, dMkX, pTru, DV.is, DV.within, dIt, items, dR1, dR2, rangeD, dFor, dForT, dLc, dLcM, wipeD, dYes, dCall, refsOf, inn, back, wb, outn, List.map_cons, List.map_nil, List.length_cons, List.length_nil, List.cons_append, List.nil_append, List.append_nil, List.drop_nil, List.take_nil, List.drop_zero, true_and, and_true, if_true, ite_true, forall_const, Bool.not_true, Bool.not_false, Bool.false_eq_true, if_false, shp_int, shp_none, shp_bool, shp_nil, eqv_int, eqv_list_nil, atI_last, atI_0, atI_1, atI_2, atI_3, map_val_int, Int.reduceNeg, atI_map, pMax, pMin, pSum, pAll, pAny, pToInt, pAbs, exists_eq_left', exists_eq_left, Option.some.injEq, isEmpty_snoc, cutD_init, List.contains_nil, List.drop_succ_cons, List.take_succ_cons, sl, Nat.reduceAdd, Nat.reduceLeDiff, Nat.reduceLT, Int.reduceLT, Int.reduceLE, Int.reduceAdd, Int.reduceSub, Int.reduceMul, Int.reduceEq, eq_self, Nat.zero_add, decide_true, decide_false, List.length_map]
    intro _ _
    have trip := readNs_trip ns head [7, 200] [] hns
    rw [← List.append_assoc, List.nil_append] at trip
    refine spec_read_numbers _ hdr (by simp; omega) ns.length head.length (by omega) (by simp) (fun f p hf => ?_) fun b hb => ?_
    · rw [trip] at hf
      cases hf
      simp only [dSeq, dAsg, dRet, dRetN, dIfS, dDrop, dPar, dAug, dNext, dBreak, dCont, gN, gT, gs0_nil, gsC_cons, put, slot, dVar, dC, dOp2, dOp1, dTest, asB, dTruth, dNot, dAnd, dOr, dAndV, dOrV, dNotV, dIf, dChain, bOf, vw, vws, mem, mput, dTup, dLst, dLstM, dNil, dCons, vals, dSl, dPart, dNoPart, asI, pSl, pAdd, pSub, pMul, pNeg, pDiv, pMod, pLt, pLe, pGt, pGe, pInt, pIntC, pEq, pNe, pIx, pIsN, pIsNotN, pIsB, pIsNotB, pIn, pNotIn, isNone, dB, pLen, pTupleOf, pListOf, pItems, dBM, dMl, onL, pAppend, pExtend, pPopAt, dFz, asV, gSubL, dIs, isK, dRaise, dMkX, pTru, DV.is, DV.within, dIt, items, dR1, dR2, rangeD, dFor, dForT, dLc, dLcM, wipeD, dYes, dCall, refsOf, inn, back, wb, outn, List.map_cons, List.map_nil, List.length_cons, List.length_nil, List.cons_append, List.nil_append, List.append_nil, List.drop_nil, List.take_nil, List.drop_zero, true_and, and_true, if_true, ite_true, forall_const, Bool.not_true, Bool.not_false, Bool.false_eq_true, if_false, shp_int, shp_none, shp_bool, shp_nil, eqv_int, eqv_list_nil, atI_last, atI_0, atI_1, atI_2, atI_3, map_val_int, Int.reduceNeg, atI_map, pMax, pMin, pSum, pAll, pAny, pToInt, pAbs, exists_eq_left', exists_eq_left, Option.some.injEq, isEmpty_snoc, cutD_init, List.contains_nil, List.drop_succ_cons, List.take_succ_cons, sl, Nat.reduceAdd, Nat.reduceLeDiff, Nat.reduceLT, Int.reduceLT, Int.reduceLE, Int.reduceAdd, Int.reduceSub, Int.reduceMul, Int.reduceEq, eq_self, Nat.zero_add, decide_true, decide_false, List.length_map]
      intro _ _
      have ec : ((head.length + (numsB ns).length : Nat) : Int) = (head.length : Int) + ((numsB ns).length : Int) := by omega
      rw [ec]
      simp only [intL, List.map_map]
      refine same_of (n := 5) ?_ (by decide) ?_
      · have := sh_pair ((sh_intLs (numsB ns)).mono (m := 2) (by decide)) (sh_pair (sh_intLs (ns.map fun n : Nat => (n : Int))) (sh_int ((head.length : Int) + ((numsB ns).length : Int))))
        simp only [intL, List.map_map] at this
        exact this.mono (by decide)
      · simp only [dSeq, dAsg, dRet, dRetN, dIfS, dDrop, dPar, dAug, dNext, dBreak, dCont, gN, gT, gs0_nil, gsC_cons, put, slot, dVar, dC, dOp2, dOp1, dTest, asB, dTruth, dNot, dAnd, dOr, dAndV, dOrV, dNotV, dIf, dChain, bOf, vw, vws, mem, mput, dTup, dLst, dLstM, dNil, dCons, vals, dSl, dPart, dNoPart, asI, pSl, pAdd, pSub, pMul, pNeg, pDiv, pMod, pLt, pLe, pGt, pGe, pInt, pIntC, pEq, pNe, pIx, pIsN, pIsNotN, pIsB, pIsNotB, pIn, pNotIn, isNone, dB, pLen, pTupleOf, pListOf, pItems, dBM, dMl, onL, pAppend, pExtend, pPopAt, dFz, asV, gSubL, dIs, isK, dRaise, dMkX, pTru, DV.is, DV.within, dIt, items, dR1, dR2, rangeD, dFor, dForT, dLc, dLcM, wipeD, dYes, dCall, refsOf, inn, back, wb, outn, List.map_cons, List.map_nil, List.length_cons, List.length_nil, List.cons_append, List.nil_append, List.append_nil, List.drop_nil, List.take_nil, List.drop_zero, true_and, and_true, if_true, ite_true, forall_const, Bool.not_true, Bool.not_false, Bool.false_eq_true, if_false, shp_int, shp_none, shp_bool, shp_nil, eqv_int, eqv_list_nil, atI_last, atI_0, atI_1, atI_2, atI_3, map_val_int, Int.reduceNeg, atI_map, pMax, pMin, pSum, pAll, pAny, pToInt, pAbs, exists_eq_left', exists_eq_left, Option.some.injEq, isEmpty_snoc, cutD_init, List.contains_nil, List.drop_succ_cons, List.take_succ_cons, sl, Nat.reduceAdd, Nat.reduceLeDiff, Nat.reduceLT, Int.reduceLT, Int.reduceLE, Int.reduceAdd, Int.reduceSub, Int.reduceMul, Int.reduceEq, eq_self, Nat.zero_add, decide_true, decide_false]
        have := k18_r15 (C := C) (D := D) hns hnl (head := head) (data := head ++ numsB ns ++ [7, 200]) (by simp) hdr (by simp; omega) ht (s0 := s0) (s5 := .val (.list (intL (numsB ns)))) (s6 := s6) (s8 := s8) (s9 := s9) (s10 := s10) (s11 := s11) (s12 := s12) (s13 := s13) (s14 := s14) (s15 := s15) (s16 := s16) (s17 := s17) (s18 := s18) (s19 := s19) fun s6 s8 s9 s10 s11 s12 s13 s14 s15 s16 s17 s18 s19 => q _ _ _ _ _ _ _ _ _ _ _ _ _ _ _ _ _
        simp only [natL, intL, List.map_map] at this ⊢
        exact this
    · rw [trip] at hb; cases hb
theorem natL_of : ∀ {vs : List Int}, (∀ v ∈ vs, 0 ≤ v ∧ v < 8000000000000000000000000000) → ∃ ns : List Nat, intL vs = natL ns ∧ ns.length = vs.length ∧ ∀ n ∈ ns, n < 256 ^ 64
  | [], _ => ⟨[], rfl, rfl, fun n hn => by cases hn⟩
  | v :: vs, h => by
    obtain ⟨ns, e, l, q⟩ := natL_of (vs := vs) fun w hw => h w (List.mem_cons_of_mem _ hw)
    obtain ⟨h0, h1⟩ := h v List.mem_cons_self
    obtain ⟨n, hn⟩ : ∃ n : Nat, v = n := ⟨v.toNat, by omega⟩
    refine ⟨n :: ns, ?_, by simp [l], fun m hm => ?_⟩
    · show PyData.int v :: intL vs = .int ((n : Nat) : Int) :: natL ns
      rw [hn, e]
    · rcases List.mem_cons.mp hm with rfl | hm
      · exact Nat.lt_of_lt_of_le (show m < 8000000000000000000000000000 by omega) (by decide)
      · exact q m hm
theorem k18_b5 {t : Int} (ht : 0 ≤ t) {s0 s3 s4 s5 s6 s7 s8 s9 s10 s11 s12 s13 s14 s15 s16 s17 s18 s19 : DV}
    (q : ∀ s3 s4 s5 s6 s7 s8 s9 s10 s11 s12 s13 s14 s15 s16 s17 s18 s19, D.nx [s0, .ref 0, .val (.int t), s3, s4, s5, s6, s7, s8, s9, s10, s11, s12, s13, s14, s15, s16, s17, s18, s19] Bx) :
    b_law_5 C D [s0, .ref 0, .val (.int t), s3, s4, s5, s6, s7, s8, s9, s10, s11, s12, s13, s14, s15, s16, s17, s18, s19] Bx := by
  simp only [b_law_5, dSeq, dAsg, dRet, dRetN, dIfS, dDrop, dPar, dAug, dNext, dBreak, dCont, gN, gT, gs0_nil, gsC_cons, put, slot, dVar, dC, dOp2, dOp1, dTest, asB, dTruth, dNot, dAnd, dOr, dAndV, dOrV, dNotV, dIf, dChain, bOf, vw, vws, mem, mput, dTup, dLst, dLstM, dNil, dCons, vals, dSl, dPart, dNoPart, asI, pSl, pAdd, pSub, pMul, pNeg, pDiv, pMod, pLt, pLe, pGt, pGe, pInt, pIntC, pEq, pNe, pIx, pIsN, pIsNotN, pIsB, pIsNotB, pIn, pNotIn, isNone, dB, pLen, pTupleOf, pListOf, pItems, dBM, dMl, onL, pAppend, pExtend, pPopAt, dFz, asV, gSubL, dIs, isK, dRaise, dMkX, pTru, DV.is, DV.within, dIt, items, dR1, dR2, rangeD, dFor, dForT, dLc, dLcM, wipeD, dYes, dCall, refsOf, inn, back, wb, outn, List.map_cons, List.map_nil, List.length_cons, List.length_nil, List.cons_append, List.nil_append, List.append_nil, List.drop_nil, List.take_nil, List.drop_zero, true_and, and_true, if_true, ite_true, forall_const, Bool.not_true, Bool.not_false, Bool.false_eq_true, if_false, shp_int, shp_none, shp_bool, shp_nil, eqv_int, eqv_list_nil, atI_last, atI_0, atI_1, atI_2, atI_3, map_val_int, Int.reduceNeg, atI_map, pMax, pMin, pSum, pAll, pAny, pToInt, pAbs, exists_eq_left', exists_eq_left, Option.some.injEq, isEmpty_snoc, cutD_init, List.contains_nil, List.drop_succ_cons, List.take_succ_cons, sl, Nat.reduceAdd, Nat.reduceLeDiff, Nat.reduceLT, Int.reduceLT, Int.reduceLE, Int.reduceAdd, Int.reduceSub, Int.reduceMul, Int.reduceEq, eq_self, Nat.zero_add, decide_true, decide_false]
  refine draw_box 5 (by decide) (by decide) rfl rfl fun d g0 g1 => ?_
  simp only [dSeq, dAsg, dRet, dRetN, dIfS, dDrop, dPar, dAug, dNext, dBreak, dCont, gN, gT, gs0_nil, gsC_cons, put, slot, dVar, dC, dOp2, dOp1, dTest, asB, dTruth, dNot, dAnd, dOr, dAndV, dOrV, dNotV, dIf, dChain, bOf, vw, vws, mem, mput, dTup, dLst, dLstM, dNil, dCons, vals, dSl, dPart, dNoPart, asI, pSl, pAdd, pSub, pMul, pNeg, pDiv, pMod, pLt, pLe, pGt, pGe, pInt, pIntC, pEq, pNe, pIx, pIsN, pIsNotN, pIsB, pIsNotB, pIn, pNotIn, isNone, dB, pLen, pTupleOf, pListOf, pItems, dBM, dMl, onL, pAppend, pExtend, pPopAt, dFz, asV, gSubL, dIs, isK, dRaise, dMkX, pTru, DV.is, DV.within, dIt, items, dR1, dR2, rangeD, dFor, dForT, dLc, dLcM, wipeD, dYes, dCall, refsOf, inn, back, wb, outn, List.map_cons, List.map_nil, List.length_cons, List.length_nil, List.cons_append, List.nil_append, List.append_nil, List.drop_nil, List.take_nil, List.drop_zero, true_and, and_true, if_true, ite_true, forall_const, Bool.not_true, Bool.not_false, Bool.false_eq_true, if_false, shp_int, shp_none, shp_bool, shp_nil, eqv_int, eqv_list_nil, atI_last, atI_0, atI_1, atI_2, atI_3, map_val_int, Int.reduceNeg, atI_map, pMax, pMin, pSum, pAll, pAny, pToInt, pAbs, exists_eq_left', exists_eq_left, Option.some.injEq, isEmpty_snoc, cutD_init, List.contains_nil, List.drop_succ_cons, List.take_succ_cons, sl, Nat.reduceAdd, Nat.reduceLeDiff, Nat.reduceLT, Int.reduceLT, Int.reduceLE, Int.reduceAdd, Int.reduceSub, Int.reduceMul, Int.reduceEq, eq_self, Nat.zero_add, decide_true, decide_false]
  refine ⟨by omega, by omega, ?_⟩
  refine lcL_anyOf (P := fun _ d => ∃ v, d = .int v ∧ 0 ≤ v ∧ v < 8000000000000000000000000000) (fun i : Nat => .val (.int (0 + (i : Nat)))) trivial (List.range d.toNat) [] (by rw [sl]; simp; omega) (fun i hi R R' kk => ?_) fun ds hds => ?_
  · simp only [x_law_1, dSeq, dAsg, dRet, dRetN, dIfS, dDrop, dPar, dAug, dNext, dBreak, dCont, gN, gT, gs0_nil, gsC_cons, put, slot, dVar, dC, dOp2, dOp1, dTest, asB, dTruth, dNot, dAnd, dOr, dAndV, dOrV, dNotV, dIf, dChain, bOf, vw, vws, mem, mput, dTup, dLst, dLstM, dNil, dCons, vals, dSl, dPart, dNoPart, asI, pSl, pAdd, pSub, pMul, pNeg, pDiv, pMod, pLt, pLe, pGt, pGe, pInt, pIntC, pEq, pNe, pIx, pIsN, pIsNotN, pIsB, pIsNotB, pIn, pNotIn, isNone, dB, pLen, pTupleOf, pListOf, pItems, dBM, dMl, onL, pAppend, pExtend, pPopAt, dFz, asV, gSubL, dIs, isK, dRaise, dMkX, pTru, DV.is, DV.within, dIt, items, dR1, dR2, rangeD, dFor, dForT, dLc, dLcM, wipeD, dYes, dCall, refsOf, inn, back, wb, outn, List.map_cons, List.map_nil, List.length_cons, List.length_nil, List.cons_append, List.nil_append, List.append_nil, List.drop_nil, List.take_nil, List.drop_zero, true_and, and_true, if_true, ite_true, forall_const, Bool.not_true, Bool.not_false, Bool.false_eq_true, if_false, shp_int, shp_none, shp_bool, shp_nil, eqv_int, eqv_list_nil, atI_last, atI_0, atI_1, atI_2, atI_3, map_val_int, Int.reduceNeg, atI_map, pMax, pMin, pSum, pAll, pAny, pToInt, pAbs, exists_eq_left', exists_eq_left, Option.some.injEq, isEmpty_snoc, cutD_init, List.contains_nil, List.drop_succ_cons, List.take_succ_cons, sl, Nat.reduceAdd, Nat.reduceLeDiff, Nat.reduceLT, Int.reduceLT, Int.reduceLE, Int.reduceAdd, Int.reduceSub, Int.reduceMul, Int.reduceEq, eq_self, Nat.zero_add, decide_true, decide_false]
    refine draw_box 4 (by decide) (by decide) rfl rfl fun j j0 j1 => ?_
    simp only [dSeq, dAsg, dRet, dRetN, dIfS, dDrop, dPar, dAug, dNext, dBreak, dCont, gN, gT, gs0_nil, gsC_cons, put, slot, dVar, dC, dOp2, dOp1, dTest, asB, dTruth, dNot, dAnd, dOr, dAndV, dOrV, dNotV, dIf, dChain, bOf, vw, vws, mem, mput, dTup, dLst, dLstM, dNil, dCons, vals, dSl, dPart, dNoPart, asI, pSl, pAdd, pSub, pMul, pNeg, pDiv, pMod, pLt, pLe, pGt, pGe, pInt, pIntC, pEq, pNe, pIx, pIsN, pIsNotN, pIsB, pIsNotB, pIn, pNotIn, isNone, dB, pLen, pTupleOf, pListOf, pItems, dBM, dMl, onL, pAppend, pExtend, pPopAt, dFz, asV, gSubL, dIs, isK, dRaise, dMkX, pTru, DV.is, DV.within, dIt, items, dR1, dR2, rangeD, dFor, dForT, dLc, dLcM, wipeD, dYes, dCall, refsOf, inn, back, wb, outn, List.map_cons, List.map_nil, List.length_cons, List.length_nil, List.cons_append, List.nil_append, List.append_nil, List.drop_nil, List.take_nil, List.drop_zero, true_and, and_true, if_true, ite_true, forall_const, Bool.not_true, Bool.not_false, Bool.false_eq_true, if_false, shp_int, shp_none, shp_bool, shp_nil, eqv_int, eqv_list_nil, atI_last, atI_0, atI_1, atI_2, atI_3, map_val_int, Int.reduceNeg, atI_map, pMax, pMin, pSum, pAll, pAny, pToInt, pAbs, exists_eq_left', exists_eq_left, Option.some.injEq, isEmpty_snoc, cutD_init, List.contains_nil, List.drop_succ_cons, List.take_succ_cons, sl, Nat.reduceAdd, Nat.reduceLeDiff, Nat.reduceLT, Int.reduceLT, Int.reduceLE, Int.reduceAdd, Int.reduceSub, Int.reduceMul, Int.reduceEq, eq_self, Nat.zero_add, decide_true, decide_false]
    obtain ⟨z, ez, hz⟩ := at4 j0 j1 200 300 70000 99999999
    refine ⟨_, ez, ?_⟩
    refine draw_box z (by omega) (by have : (2 : Int) ^ 64 = 18446744073709551616 := by decide
                                     omega) rfl rfl fun w w0 w1 => ?_
    simp only [dSeq, dAsg, dRet, dRetN, dIfS, dDrop, dPar, dAug, dNext, dBreak, dCont, gN, gT, gs0_nil, gsC_cons, put, slot, dVar, dC, dOp2, dOp1, dTest, asB, dTruth, dNot, dAnd, dOr, dAndV, dOrV, dNotV, dIf, dChain, bOf, vw, vws, mem, mput, dTup, dLst, dLstM, dNil, dCons, vals, dSl, dPart, dNoPart, asI, pSl, pAdd, pSub, pMul, pNeg, pDiv, pMod, pLt, pLe, pGt, pGe, pInt, pIntC, pEq, pNe, pIx, pIsN, pIsNotN, pIsB, pIsNotB, pIn, pNotIn, isNone, dB, pLen, pTupleOf, pListOf, pItems, dBM, dMl, onL, pAppend, pExtend, pPopAt, dFz, asV, gSubL, dIs, isK, dRaise, dMkX, pTru, DV.is, DV.within, dIt, items, dR1, dR2, rangeD, dFor, dForT, dLc, dLcM, wipeD, dYes, dCall, refsOf, inn, back, wb, outn, List.map_cons, List.map_nil, List.length_cons, List.length_nil, List.cons_append, List.nil_append, List.append_nil, List.drop_nil, List.take_nil, List.drop_zero, true_and, and_true, if_true, ite_true, forall_const, Bool.not_true, Bool.not_false, Bool.false_eq_true, if_false, shp_int, shp_none, shp_bool, shp_nil, eqv_int, eqv_list_nil, atI_last, atI_0, atI_1, atI_2, atI_3, map_val_int, Int.reduceNeg, atI_map, pMax, pMin, pSum, pAll, pAny, pToInt, pAbs, exists_eq_left', exists_eq_left, Option.some.injEq, isEmpty_snoc, cutD_init, List.contains_nil, List.drop_succ_cons, List.take_succ_cons, sl, Nat.reduceAdd, Nat.reduceLeDiff, Nat.reduceLT, Int.reduceLT, Int.reduceLE, Int.reduceAdd, Int.reduceSub, Int.reduceMul, Int.reduceEq, eq_self, Nat.zero_add, decide_true, decide_false]
    refine draw_box 12 (by decide) (by decide) rfl rfl fun y y0 y1 => ?_
    simp only [dSeq, dAsg, dRet, dRetN, dIfS, dDrop, dPar, dAug, dNext, dBreak, dCont, gN, gT, gs0_nil, gsC_cons, put, slot, dVar, dC, dOp2, dOp1, dTest, asB, dTruth, dNot, dAnd, dOr, dAndV, dOrV, dNotV, dIf, dChain, bOf, vw, vws, mem, mput, dTup, dLst, dLstM, dNil, dCons, vals, dSl, dPart, dNoPart, asI, pSl, pAdd, pSub, pMul, pNeg, pDiv, pMod, pLt, pLe, pGt, pGe, pInt, pIntC, pEq, pNe, pIx, pIsN, pIsNotN, pIsB, pIsNotB, pIn, pNotIn, isNone, dB, pLen, pTupleOf, pListOf, pItems, dBM, dMl, onL, pAppend, pExtend, pPopAt, dFz, asV, gSubL, dIs, isK, dRaise, dMkX, pTru, DV.is, DV.within, dIt, items, dR1, dR2, rangeD, dFor, dForT, dLc, dLcM, wipeD, dYes, dCall, refsOf, inn, back, wb, outn, List.map_cons, List.map_nil, List.length_cons, List.length_nil, List.cons_append, List.nil_append, List.append_nil, List.drop_nil, List.take_nil, List.drop_zero, true_and, and_true, if_true, ite_true, forall_const, Bool.not_true, Bool.not_false, Bool.false_eq_true, if_false, shp_int, shp_none, shp_bool, shp_nil, eqv_int, eqv_list_nil, atI_last, atI_0, atI_1, atI_2, atI_3, map_val_int, Int.reduceNeg, atI_map, pMax, pMin, pSum, pAll, pAny, pToInt, pAbs, exists_eq_left', exists_eq_left, Option.some.injEq, isEmpty_snoc, cutD_init, List.contains_nil, List.drop_succ_cons, List.take_succ_cons, sl, Nat.reduceAdd, Nat.reduceLeDiff, Nat.reduceLT, Int.reduceLT, Int.reduceLE, Int.reduceAdd, Int.reduceSub, Int.reduceMul, Int.reduceEq, eq_self, Nat.zero_add, decide_true, decide_false]
    have e64 : (2 : Int) ^ 64 = 18446744073709551616 := by decide
    split
    · exact ⟨cmul_l (by omega) (by omega), kk _ ⟨_, rfl, by omega, by omega⟩⟩
    · exact ⟨cmul_l (by omega) (by omega), kk _ ⟨_, rfl, by omega, by omega⟩⟩
  · obtain ⟨vs, rfl, e2, e3⟩ := all2_intsP hds
    obtain ⟨ns, en, el, eq⟩ := natL_of e3
    rw [List.length_range] at e2
    simp only [dSeq, dAsg, dRet, dRetN, dIfS, dDrop, dPar, dAug, dNext, dBreak, dCont, gN, gT, gs0_nil, gsC_cons, put, slot, dVar, dC, dOp2, dOp1, dTest, asB, dTruth, dNot, dAnd, dOr, dAndV, dOrV, dNotV, dIf, dChain, bOf, vw, vws, mem, mput, dTup, dLst, dLstM, dNil, dCons, vals, dSl, dPart, dNoPart, asI, pSl, pAdd, pSub, pMul, pNeg, pDiv, pMod, pLt, pLe, pGt, pGe, pInt, pIntC, pEq, pNe, pIx, pIsN, pIsNotN, pIsB, pIsNotB, pIn, pNotIn, isNone, dB, pLen, pTupleOf, pListOf, pItems, dBM, dMl, onL, pAppend, pExtend, pPopAt, dFz, asV, gSubL, dIs, isK, dRaise, dMkX, pTru, DV.is, DV.within, dIt, items, dR1, dR2, rangeD, dFor, dForT, dLc, dLcM, wipeD, dYes, dCall, refsOf, inn, back, wb, outn, List.map_cons, List.map_nil, List.length_cons, List.length_nil, List.cons_append, List.nil_append, List.append_nil, List.drop_nil, List.take_nil, List.drop_zero, true_and, and_true, if_true, ite_true, forall_const, Bool.not_true, Bool.not_false, Bool.false_eq_true, if_false, shp_int, shp_none, shp_bool, shp_nil, eqv_int, eqv_list_nil, atI_last, atI_0, atI_1, atI_2, atI_3, map_val_int, Int.reduceNeg, atI_map, pMax, pMin, pSum, pAll, pAny, pToInt, pAbs, exists_eq_left', exists_eq_left, Option.some.injEq, isEmpty_snoc, cutD_init, List.contains_nil, List.drop_succ_cons, List.take_succ_cons, sl, Nat.reduceAdd, Nat.reduceLeDiff, Nat.reduceLT, Int.reduceLT, Int.reduceLE, Int.reduceAdd, Int.reduceSub, Int.reduceMul, Int.reduceEq, eq_self, Nat.zero_add, decide_true, decide_false]
    have en' : List.map PyData.int vs = natL ns := en
    rw [en]
    exact k18_r19 eq (by omega) ht q
theorem k18_for (hC : ∀ M, C' M) {s0 : DV} (q : ∀ s2 s3 s4 s5 s6 s7 s8 s9 s10 s11 s12 s13 s14 s15 s16 s17 s18 s19, D.nx [s0, .ref 0, s2, s3, s4, s5, s6, s7, s8, s9, s10, s11, s12, s13, s14, s15, s16, s17, s18, s19] Bx) : ∀ (is : List Nat) (s2 s3 s4 s5 s6 s7 s8 s9 s10 s11 s12 s13 s14 s15 s16 s17 s18 s19 : DV),
    forL (gN 2) (b_law_5 C) D C' (is.map fun i : Nat => .val (.int (0 + (i : Nat)))) [s0, .ref 0, s2, s3, s4, s5, s6, s7, s8, s9, s10, s11, s12, s13, s14, s15, s16, s17, s18, s19] Bx
  | [], _, _, _, _, _, _, _, _, _, _, _, _, _, _, _, _, _, _ => ⟨hC _, q _ _ _ _ _ _ _ _ _ _ _ _ _ _ _ _ _ _⟩
  | i :: is, _, _, _, _, _, _, _, _, _, _, _, _, _, _, _, _, _, _ => ⟨hC _, k18_b5 (by omega) fun _ _ _ _ _ _ _ _ _ _ _ _ _ _ _ _ _ => k18_for hC q is _ _ _ _ _ _ _ _ _ _ _ _ _ _ _ _ _ _⟩
end
theorem spec_law {C : Str → Addr} (s : Addr) (ns : List Int) (hl : ns.length ≤ 63) {Q : DQ} {E : DX} (q : Q (.val (.bool true)) []) : W_law C [.raw (.ref s) (pInts s ns)] [] Q E := by
  refine ⟨rfl, ?_⟩
  simp only [B_law, dSeq, dAsg, dRet, dRetN, dIfS, dDrop, dPar, dAug, dNext, dBreak, dCont, gN, gT, gs0_nil, gsC_cons, put, slot, dVar, dC, dOp2, dOp1, dTest, asB, dTruth, dNot, dAnd, dOr, dAndV, dOrV, dNotV, dIf, dChain, bOf, vw, vws, mem, mput, dTup, dLst, dLstM, dNil, dCons, vals, dSl, dPart, dNoPart, asI, pSl, pAdd, pSub, pMul, pNeg, pDiv, pMod, pLt, pLe, pGt, pGe, pInt, pIntC, pEq, pNe, pIx, pIsN, pIsNotN, pIsB, pIsNotB, pIn, pNotIn, isNone, dB, pLen, pTupleOf, pListOf, pItems, dBM, dMl, onL, pAppend, pExtend, pPopAt, dFz, asV, gSubL, dIs, isK, dRaise, dMkX, pTru, DV.is, DV.within, dIt, items, dR1, dR2, rangeD, dFor, dForT, dLc, dLcM, wipeD, dYes, dCall, refsOf, inn, back, wb, outn, List.map_cons, List.map_nil, List.length_cons, List.length_nil, List.cons_append, List.nil_append, List.append_nil, List.drop_nil, List.take_nil, List.drop_zero, true_and, and_true, if_true, ite_true, forall_const, Bool.not_true, Bool.not_false, Bool.false_eq_true, if_false, shp_int, shp_none, shp_bool, shp_nil, eqv_int, eqv_list_nil, atI_last, atI_0, atI_1, atI_2, atI_3, map_val_int, Int.reduceNeg, atI_map, pMax, pMin, pSum, pAll, pAny, pToInt, pAbs, exists_eq_left', exists_eq_left, Option.some.injEq, isEmpty_snoc, cutD_init, List.contains_nil, List.drop_succ_cons, List.take_succ_cons, sl, Nat.reduceAdd, Nat.reduceLeDiff, Nat.reduceLT, Int.reduceLT, Int.reduceLE, Int.reduceAdd, Int.reduceSub, Int.reduceMul, Int.reduceEq, eq_self, Nat.zero_add, decide_true, decide_false, List.replicate]
  refine ⟨s, ns, rfl, hl, ?_⟩
  simp only [r_law_21, c_ALONE, c_ROUND, dSeq, dAsg, dRet, dRetN, dIfS, dDrop, dPar, dAug, dNext, dBreak, dCont, gN, gT, gs0_nil, gsC_cons, put, slot, dVar, dC, dOp2, dOp1, dTest, asB, dTruth, dNot, dAnd, dOr, dAndV, dOrV, dNotV, dIf, dChain, bOf, vw, vws, mem, mput, dTup, dLst, dLstM, dNil, dCons, vals, dSl, dPart, dNoPart, asI, pSl, pAdd, pSub, pMul, pNeg, pDiv, pMod, pLt, pLe, pGt, pGe, pInt, pIntC, pEq, pNe, pIx, pIsN, pIsNotN, pIsB, pIsNotB, pIn, pNotIn, isNone, dB, pLen, pTupleOf, pListOf, pItems, dBM, dMl, onL, pAppend, pExtend, pPopAt, dFz, asV, gSubL, dIs, isK, dRaise, dMkX, pTru, DV.is, DV.within, dIt, items, dR1, dR2, rangeD, dFor, dForT, dLc, dLcM, wipeD, dYes, dCall, refsOf, inn, back, wb, outn, List.map_cons, List.map_nil, List.length_cons, List.length_nil, List.cons_append, List.nil_append, List.append_nil, List.drop_nil, List.take_nil, List.drop_zero, true_and, and_true, if_true, ite_true, forall_const, Bool.not_true, Bool.not_false, Bool.false_eq_true, if_false, shp_int, shp_none, shp_bool, shp_nil, eqv_int, eqv_list_nil, atI_last, atI_0, atI_1, atI_2, atI_3, map_val_int, Int.reduceNeg, atI_map, pMax, pMin, pSum, pAll, pAny, pToInt, pAbs, exists_eq_left', exists_eq_left, Option.some.injEq, isEmpty_snoc, cutD_init, List.contains_nil, List.drop_succ_cons, List.take_succ_cons, sl, Nat.reduceAdd, Nat.reduceLeDiff, Nat.reduceLT, Int.reduceLT, Int.reduceLE, Int.reduceAdd, Int.reduceSub, Int.reduceMul, Int.reduceEq, eq_self, Nat.zero_add, decide_true, decide_false]
  have es := (sh_pair (n := 0) (sh_int 192) (sh_int 16777213)).shaped (by decide)
  have ee : PyData.eqv (.tuple [.int 192, .int 16777213]) (.tuple [.int 192, .int 16777213]) = true := (eqv_intT [192, 16777213] [192, 16777213]).trans (by decide)
  refine ⟨es, es, ?_⟩
  rw [ee]
  simp only [r_law_20, dSeq, dAsg, dRet, dRetN, dIfS, dDrop, dPar, dAug, dNext, dBreak, dCont, gN, gT, gs0_nil, gsC_cons, put, slot, dVar, dC, dOp2, dOp1, dTest, asB, dTruth, dNot, dAnd, dOr, dAndV, dOrV, dNotV, dIf, dChain, bOf, vw, vws, mem, mput, dTup, dLst, dLstM, dNil, dCons, vals, dSl, dPart, dNoPart, asI, pSl, pAdd, pSub, pMul, pNeg, pDiv, pMod, pLt, pLe, pGt, pGe, pInt, pIntC, pEq, pNe, pIx, pIsN, pIsNotN, pIsB, pIsNotB, pIn, pNotIn, isNone, dB, pLen, pTupleOf, pListOf, pItems, dBM, dMl, onL, pAppend, pExtend, pPopAt, dFz, asV, gSubL, dIs, isK, dRaise, dMkX, pTru, DV.is, DV.within, dIt, items, dR1, dR2, rangeD, dFor, dForT, dLc, dLcM, wipeD, dYes, dCall, refsOf, inn, back, wb, outn, List.map_cons, List.map_nil, List.length_cons, List.length_nil, List.cons_append, List.nil_append, List.append_nil, List.drop_nil, List.take_nil, List.drop_zero, true_and, and_true, if_true, ite_true, forall_const, Bool.not_true, Bool.not_false, Bool.false_eq_true, if_false, shp_int, shp_none, shp_bool, shp_nil, eqv_int, eqv_list_nil, atI_last, atI_0, atI_1, atI_2, atI_3, map_val_int, Int.reduceNeg, atI_map, pMax, pMin, pSum, pAll, pAny, pToInt, pAbs, exists_eq_left', exists_eq_left, Option.some.injEq, isEmpty_snoc, cutD_init, List.contains_nil, List.drop_succ_cons, List.take_succ_cons, sl, Nat.reduceAdd, Nat.reduceLeDiff, Nat.reduceLT, Int.reduceLT, Int.reduceLE, Int.reduceAdd, Int.reduceSub, Int.reduceMul, Int.reduceEq, eq_self, Nat.zero_add, decide_true, decide_false]
  refine ⟨by decide, by decide, k18_for (fun _ => trivial) (fun _ _ _ _ _ _ _ _ _ _ _ _ _ _ _ _ _ _ => ?_) (List.range 4) _ _ _ _ _ _ _ _ _ _ _ _ _ _ _ _ _ _⟩
  simp only [dSeq, dAsg, dRet, dRetN, dIfS, dDrop, dPar, dAug, dNext, dBreak, dCont, gN, gT, gs0_nil, gsC_cons, put, slot, dVar, dC, dOp2, dOp1, dTest, asB, dTruth, dNot, dAnd, dOr, dAndV, dOrV, dNotV, dIf, dChain, bOf, vw, vws, mem, mput, dTup, dLst, dLstM, dNil, dCons, vals, dSl, dPart, dNoPart, asI, pSl, pAdd, pSub, pMul, pNeg, pDiv, pMod, pLt, pLe, pGt, pGe, pInt, pIntC, pEq, pNe, pIx, pIsN, pIsNotN, pIsB, pIsNotB, pIn, pNotIn, isNone, dB, pLen, pTupleOf, pListOf, pItems, dBM, dMl, onL, pAppend, pExtend, pPopAt, dFz, asV, gSubL, dIs, isK, dRaise, dMkX, pTru, DV.is, DV.within, dIt, items, dR1, dR2, rangeD, dFor, dForT, dLc, dLcM, wipeD, dYes, dCall, refsOf, inn, back, wb, outn, List.map_cons, List.map_nil, List.length_cons, List.length_nil, List.cons_append, List.nil_append, List.append_nil, List.drop_nil, List.take_nil, List.drop_zero, true_and, and_true, if_true, ite_true, forall_const, Bool.not_true, Bool.not_false, Bool.false_eq_true, if_false, shp_int, shp_none, shp_bool, shp_nil, eqv_int, eqv_list_nil, atI_last, atI_0, atI_1, atI_2, atI_3, map_val_int, Int.reduceNeg, atI_map, pMax, pMin, pSum, pAll, pAny, pToInt, pAbs, exists_eq_left', exists_eq_left, Option.some.injEq, isEmpty_snoc, cutD_init, List.contains_nil, List.drop_succ_cons, List.take_succ_cons, sl, Nat.reduceAdd, Nat.reduceLeDiff, Nat.reduceLT, Int.reduceLT, Int.reduceLE, Int.reduceAdd, Int.reduceSub, Int.reduceMul, Int.reduceEq, eq_self, Nat.zero_add, decide_true, decide_false]
  show W_number_bytes [.val (.int ((1000 : Nat) : Int))] [] _ _
  refine spec_number_bytes 1000 (by decide) ?_
  have e1 : numB 1000 = [193, 3, 232] := by
    unfold numB
    rw [if_neg (by decide), digs_pos (by decide), digs_small (by decide) (by decide)]; rfl
  have e2 : PyData.eqv (.list [.int 193, .int 3, .int 232]) (.list [.int 193, .int 3, .int 232]) = true := (eqv_intL [193, 3, 232] [193, 3, 232]).trans (by decide)
  simp only [e1, dSeq, dAsg, dRet, dRetN, dIfS, dDrop, dPar, dAug, dNext, dBreak, dCont, gN, gT, gs0_nil, gsC_cons, put, slot, dVar, dC, dOp2, dOp1, dTest, asB, dTruth, dNot, dAnd, dOr, dAndV, dOrV, dNotV, dIf, dChain, bOf, vw, vws, mem, mput, dTup, dLst, dLstM, dNil, dCons, vals, dSl, dPart, dNoPart, asI, pSl, pAdd, pSub, pMul, pNeg, pDiv, pMod, pLt, pLe, pGt, pGe, pInt, pIntC, pEq, pNe, pIx, pIsN, pIsNotN, pIsB, pIsNotB, pIn, pNotIn, isNone, dB, pLen, pTupleOf, pListOf, pItems, dBM, dMl, onL, pAppend, pExtend, pPopAt, dFz, asV, gSubL, dIs, isK, dRaise, dMkX, pTru, DV.is, DV.within, dIt, items, dR1, dR2, rangeD, dFor, dForT, dLc, dLcM, wipeD, dYes, dCall, refsOf, inn, back, wb, outn, List.map_cons, List.map_nil, List.length_cons, List.length_nil, List.cons_append, List.nil_append, List.append_nil, List.drop_nil, List.take_nil, List.drop_zero, true_and, and_true, if_true, ite_true, forall_const, Bool.not_true, Bool.not_false, Bool.false_eq_true, if_false, shp_int, shp_none, shp_bool, shp_nil, eqv_int, eqv_list_nil, atI_last, atI_0, atI_1, atI_2, atI_3, map_val_int, Int.reduceNeg, atI_map, pMax, pMin, pSum, pAll, pAny, pToInt, pAbs, exists_eq_left', exists_eq_left, Option.some.injEq, isEmpty_snoc, cutD_init, List.contains_nil, List.drop_succ_cons, List.take_succ_cons, sl, Nat.reduceAdd, Nat.reduceLeDiff, Nat.reduceLT, Int.reduceLT, Int.reduceLE, Int.reduceAdd, Int.reduceSub, Int.reduceMul, Int.reduceEq, eq_self, Nat.zero_add, decide_true, decide_false]
  refine ⟨shp_intL [193, 3, 232], shp_intL [193, 3, 232], ?_⟩
  rw [e2]
  simp only [dSeq, dAsg, dRet, dRetN, dIfS, dDrop, dPar, dAug, dNext, dBreak, dCont, gN, gT, gs0_nil, gsC_cons, put, slot, dVar, dC, dOp2, dOp1, dTest, asB, dTruth, dNot, dAnd, dOr, dAndV, dOrV, dNotV, dIf, dChain, bOf, vw, vws, mem, mput, dTup, dLst, dLstM, dNil, dCons, vals, dSl, dPart, dNoPart, asI, pSl, pAdd, pSub, pMul, pNeg, pDiv, pMod, pLt, pLe, pGt, pGe, pInt, pIntC, pEq, pNe, pIx, pIsN, pIsNotN, pIsB, pIsNotB, pIn, pNotIn, isNone, dB, pLen, pTupleOf, pListOf, pItems, dBM, dMl, onL, pAppend, pExtend, pPopAt, dFz, asV, gSubL, dIs, isK, dRaise, dMkX, pTru, DV.is, DV.within, dIt, items, dR1, dR2, rangeD, dFor, dForT, dLc, dLcM, wipeD, dYes, dCall, refsOf, inn, back, wb, outn, List.map_cons, List.map_nil, List.length_cons, List.length_nil, List.cons_append, List.nil_append, List.append_nil, List.drop_nil, List.take_nil, List.drop_zero, true_and, and_true, if_true, ite_true, forall_const, Bool.not_true, Bool.not_false, Bool.false_eq_true, if_false, shp_int, shp_none, shp_bool, shp_nil, eqv_int, eqv_list_nil, atI_last, atI_0, atI_1, atI_2, atI_3, map_val_int, Int.reduceNeg, atI_map, pMax, pMin, pSum, pAll, pAny, pToInt, pAbs, exists_eq_left', exists_eq_left, Option.some.injEq, isEmpty_snoc, cutD_init, List.contains_nil, List.drop_succ_cons, List.take_succ_cons, sl, Nat.reduceAdd, Nat.reduceLeDiff, Nat.reduceLT, Int.reduceLT, Int.reduceLE, Int.reduceAdd, Int.reduceSub, Int.reduceMul, Int.reduceEq, eq_self, Nat.zero_add, decide_true, decide_false]
  show W_sealed [.val (.tuple (intL []))] [] _ _
  refine spec_sealed [] _ (.inr rfl) (by decide) ?_
  have e3 : sealD [] = [0, 0, 0, 1] := by decide
  have e4 : PyData.eqv (.tuple [.int 0, .int 0, .int 0, .int 1]) (.tuple [.int 0, .int 0, .int 0, .int 1]) = true := (eqv_intT [0, 0, 0, 1] [0, 0, 0, 1]).trans (by decide)
  simp only [e3, dSeq, dAsg, dRet, dRetN, dIfS, dDrop, dPar, dAug, dNext, dBreak, dCont, gN, gT, gs0_nil, gsC_cons, put, slot, dVar, dC, dOp2, dOp1, dTest, asB, dTruth, dNot, dAnd, dOr, dAndV, dOrV, dNotV, dIf, dChain, bOf, vw, vws, mem, mput, dTup, dLst, dLstM, dNil, dCons, vals, dSl, dPart, dNoPart, asI, pSl, pAdd, pSub, pMul, pNeg, pDiv, pMod, pLt, pLe, pGt, pGe, pInt, pIntC, pEq, pNe, pIx, pIsN, pIsNotN, pIsB, pIsNotB, pIn, pNotIn, isNone, dB, pLen, pTupleOf, pListOf, pItems, dBM, dMl, onL, pAppend, pExtend, pPopAt, dFz, asV, gSubL, dIs, isK, dRaise, dMkX, pTru, DV.is, DV.within, dIt, items, dR1, dR2, rangeD, dFor, dForT, dLc, dLcM, wipeD, dYes, dCall, refsOf, inn, back, wb, outn, List.map_cons, List.map_nil, List.length_cons, List.length_nil, List.cons_append, List.nil_append, List.append_nil, List.drop_nil, List.take_nil, List.drop_zero, true_and, and_true, if_true, ite_true, forall_const, Bool.not_true, Bool.not_false, Bool.false_eq_true, if_false, shp_int, shp_none, shp_bool, shp_nil, eqv_int, eqv_list_nil, atI_last, atI_0, atI_1, atI_2, atI_3, map_val_int, Int.reduceNeg, atI_map, pMax, pMin, pSum, pAll, pAny, pToInt, pAbs, exists_eq_left', exists_eq_left, Option.some.injEq, isEmpty_snoc, cutD_init, List.contains_nil, List.drop_succ_cons, List.take_succ_cons, sl, Nat.reduceAdd, Nat.reduceLeDiff, Nat.reduceLT, Int.reduceLT, Int.reduceLE, Int.reduceAdd, Int.reduceSub, Int.reduceMul, Int.reduceEq, eq_self, Nat.zero_add, decide_true, decide_false]
  refine ⟨shp_intT [0, 0, 0, 1], shp_intT [0, 0, 0, 1], ?_⟩
  rw [e4]
  exact q

end DL

namespace DL
open PySem PySem.Spec PyProof.Rows L2
section
open PySem.W PySem.Calls PySem.HandSPX
set_option maxHeartbeats 4000000 in
theorem all_mk {w : World} {K : PySem.W.Frag} {h : Heap} {mg : Str → Option Value} {fa : Addr} (X : K.In h) (G : h.Ns mainGlobals mg) (hfa : mg "law" = some (.ref fa))
    {f__law_box : Addr} {od__law_box an__law_box : Option Addr} {sl__law_box : Array (Option Value)} {oc__law_box kV__law_box dc__law_box pm__law_box cd__law_box ct__law_box : Value}
    {f__law_check : Addr} {od__law_check an__law_check : Option Addr} {sl__law_check : Array (Option Value)} {oc__law_check kV__law_check dc__law_check pm__law_check cd__law_check ct__law_check : Value}
    {f__law_load : Addr} {od__law_load an__law_load : Option Addr} {sl__law_load : Array (Option Value)} {oc__law_load kV__law_load dc__law_load pm__law_load cd__law_load ct__law_load : Value}
    {f__law_draw : Addr} {od__law_draw an__law_draw : Option Addr} {sl__law_draw : Array (Option Value)} {oc__law_draw kV__law_draw dc__law_draw pm__law_draw cd__law_draw ct__law_draw : Value}
    {f__law_number : Addr} {od__law_number an__law_number : Option Addr} {sl__law_number : Array (Option Value)} {oc__law_number kV__law_number dc__law_number pm__law_number cd__law_number ct__law_number : Value}
    {f_byte_at : Addr} {od_byte_at an_byte_at : Option Addr} {sl_byte_at : Array (Option Value)} {oc_byte_at kV_byte_at dc_byte_at pm_byte_at cd_byte_at ct_byte_at : Value}
    {f_read_number : Addr} {od_read_number an_read_number : Option Addr} {sl_read_number : Array (Option Value)} {oc_read_number kV_read_number dc_read_number pm_read_number cd_read_number ct_read_number : Value}
    {f_check_of : Addr} {od_check_of an_check_of : Option Addr} {sl_check_of : Array (Option Value)} {oc_check_of kV_check_of dc_check_of pm_check_of cd_check_of ct_check_of : Value}
    {f_number_bytes : Addr} {od_number_bytes an_number_bytes : Option Addr} {sl_number_bytes : Array (Option Value)} {oc_number_bytes kV_number_bytes dc_number_bytes pm_number_bytes cd_number_bytes ct_number_bytes : Value}
    {f_sealed : Addr} {od_sealed an_sealed : Option Addr} {sl_sealed : Array (Option Value)} {oc_sealed kV_sealed dc_sealed pm_sealed cd_sealed ct_sealed : Value}
    {f_opened : Addr} {od_opened an_opened : Option Addr} {sl_opened : Array (Option Value)} {oc_opened kV_opened dc_opened pm_opened cd_opened ct_opened : Value}
    {f__law_opened : Addr} {od__law_opened an__law_opened : Option Addr} {sl__law_opened : Array (Option Value)} {oc__law_opened kV__law_opened dc__law_opened pm__law_opened cd__law_opened ct__law_opened : Value}
    {f__law_place : Addr} {od__law_place an__law_place : Option Addr} {sl__law_place : Array (Option Value)} {oc__law_place kV__law_place dc__law_place pm__law_place cd__law_place ct__law_place : Value}
    {f__law_read : Addr} {od__law_read an__law_read : Option Addr} {sl__law_read : Array (Option Value)} {oc__law_read kV__law_read dc__law_read pm__law_read cd__law_read ct__law_read : Value}
    {f__law_refused : Addr} {od__law_refused an__law_refused : Option Addr} {sl__law_refused : Array (Option Value)} {oc__law_refused kV__law_refused dc__law_refused pm__law_refused cd__law_refused ct__law_refused : Value}
    {f__law_same : Addr} {od__law_same an__law_same : Option Addr} {sl__law_same : Array (Option Value)} {oc__law_same kV__law_same dc__law_same pm__law_same cd__law_same ct__law_same : Value}
    {f__law_seal : Addr} {od__law_seal an__law_seal : Option Addr} {sl__law_seal : Array (Option Value)} {oc__law_seal kV__law_seal dc__law_seal pm__law_seal cd__law_seal ct__law_seal : Value}
    {f_folded : Addr} {od_folded an_folded : Option Addr} {sl_folded : Array (Option Value)} {oc_folded kV_folded dc_folded pm_folded cd_folded ct_folded : Value}
    {f_numbers_bytes : Addr} {od_numbers_bytes an_numbers_bytes : Option Addr} {sl_numbers_bytes : Array (Option Value)} {oc_numbers_bytes kV_numbers_bytes dc_numbers_bytes pm_numbers_bytes cd_numbers_bytes ct_numbers_bytes : Value}
    {f_read_numbers : Addr} {od_read_numbers an_read_numbers : Option Addr} {sl_read_numbers : Array (Option Value)} {oc_read_numbers kV_read_numbers dc_read_numbers pm_read_numbers cd_read_numbers ct_read_numbers : Value}
    {f_unfolded : Addr} {od_unfolded an_unfolded : Option Addr} {sl_unfolded : Array (Option Value)} {oc_unfolded kV_unfolded dc_unfolded pm_unfolded cd_unfolded ct_unfolded : Value}
    {f_law : Addr} {od_law an_law : Option Addr} {sl_law : Array (Option Value)} {oc_law kV_law dc_law pm_law cd_law ct_law : Value}
    {t_ALONE : Tok}
    {t_BYTE : Tok}
    {t_CHECK : Tok}
    {t_ROUND : Tok}
    {t_STEP : Tok}
    {C_BadBytes fI_BadBytes N_BadBytes cda_BadBytes cc_BadBytes : Addr} {nm_BadBytes q_BadBytes file_BadBytes : Str} {bs_BadBytes bm_BadBytes sub_BadBytes : List Value} {sn_BadBytes : List Str} {ab_BadBytes : Bool} {col_BadBytes : Option Bool} {dd_BadBytes od1_BadBytes an1_BadBytes cdd_BadBytes cld_BadBytes : Option Addr} {m0_BadBytes m1_BadBytes m2_BadBytes m3_BadBytes m5_BadBytes : Option Value} {oc1_BadBytes kV1_BadBytes doc1_BadBytes pm1_BadBytes ct1_BadBytes ccl_BadBytes cl_BadBytes : Value} {osl_BadBytes ccs_BadBytes csl_BadBytes : Array (Option Value)} {vs_BadBytes : Array Value} {tf_BadBytes : Tok}
    (a__law_box : PySem.W.nsIn K mainGlobals "_law_box" = some (some (.ref f__law_box)))
    (l__law_box : K.lookup f__law_box = some ⟨oc__law_box, od__law_box, .func (PySem.W.fnOf "_law_box" "_law_box" (defArgs s__law_box) (defBody s__law_box) (defScope s__law_box) .none kV__law_box dc__law_box pm__law_box an__law_box cd__law_box ct__law_box), sl__law_box⟩)
    (c__law_box : PySem.W.codeIn K cd__law_box "_law_box" = true)
    (k__law_box : PySem.W.keepIn K (.ref f__law_box) = true)
    (a__law_check : PySem.W.nsIn K mainGlobals "_law_check" = some (some (.ref f__law_check)))
    (l__law_check : K.lookup f__law_check = some ⟨oc__law_check, od__law_check, .func (PySem.W.fnOf "_law_check" "_law_check" (defArgs s__law_check) (defBody s__law_check) (defScope s__law_check) .none kV__law_check dc__law_check pm__law_check an__law_check cd__law_check ct__law_check), sl__law_check⟩)
    (c__law_check : PySem.W.codeIn K cd__law_check "_law_check" = true)
    (k__law_check : PySem.W.keepIn K (.ref f__law_check) = true)
    (a__law_load : PySem.W.nsIn K mainGlobals "_law_load" = some (some (.ref f__law_load)))
    (l__law_load : K.lookup f__law_load = some ⟨oc__law_load, od__law_load, .func (PySem.W.fnOf "_law_load" "_law_load" (defArgs s__law_load) (defBody s__law_load) (defScope s__law_load) .none kV__law_load dc__law_load pm__law_load an__law_load cd__law_load ct__law_load), sl__law_load⟩)
    (c__law_load : PySem.W.codeIn K cd__law_load "_law_load" = true)
    (k__law_load : PySem.W.keepIn K (.ref f__law_load) = true)
    (a__law_draw : PySem.W.nsIn K mainGlobals "_law_draw" = some (some (.ref f__law_draw)))
    (l__law_draw : K.lookup f__law_draw = some ⟨oc__law_draw, od__law_draw, .func (PySem.W.fnOf "_law_draw" "_law_draw" (defArgs s__law_draw) (defBody s__law_draw) (defScope s__law_draw) .none kV__law_draw dc__law_draw pm__law_draw an__law_draw cd__law_draw ct__law_draw), sl__law_draw⟩)
    (c__law_draw : PySem.W.codeIn K cd__law_draw "_law_draw" = true)
    (k__law_draw : PySem.W.keepIn K (.ref f__law_draw) = true)
    (a__law_number : PySem.W.nsIn K mainGlobals "_law_number" = some (some (.ref f__law_number)))
    (l__law_number : K.lookup f__law_number = some ⟨oc__law_number, od__law_number, .func (PySem.W.fnOf "_law_number" "_law_number" (defArgs s__law_number) (defBody s__law_number) (defScope s__law_number) .none kV__law_number dc__law_number pm__law_number an__law_number cd__law_number ct__law_number), sl__law_number⟩)
    (c__law_number : PySem.W.codeIn K cd__law_number "_law_number" = true)
    (k__law_number : PySem.W.keepIn K (.ref f__law_number) = true)
    (a_byte_at : PySem.W.nsIn K mainGlobals "byte_at" = some (some (.ref f_byte_at)))
    (l_byte_at : K.lookup f_byte_at = some ⟨oc_byte_at, od_byte_at, .func (PySem.W.fnOf "byte_at" "byte_at" (defArgs s_byte_at) (defBody s_byte_at) (defScope s_byte_at) .none kV_byte_at dc_byte_at pm_byte_at an_byte_at cd_byte_at ct_byte_at), sl_byte_at⟩)
    (c_byte_at : PySem.W.codeIn K cd_byte_at "byte_at" = true)
    (k_byte_at : PySem.W.keepIn K (.ref f_byte_at) = true)
    (a_read_number : PySem.W.nsIn K mainGlobals "read_number" = some (some (.ref f_read_number)))
    (l_read_number : K.lookup f_read_number = some ⟨oc_read_number, od_read_number, .func (PySem.W.fnOf "read_number" "read_number" (defArgs s_read_number) (defBody s_read_number) (defScope s_read_number) .none kV_read_number dc_read_number pm_read_number an_read_number cd_read_number ct_read_number), sl_read_number⟩)
    (c_read_number : PySem.W.codeIn K cd_read_number "read_number" = true)
    (k_read_number : PySem.W.keepIn K (.ref f_read_number) = true)
    (a_check_of : PySem.W.nsIn K mainGlobals "check_of" = some (some (.ref f_check_of)))
    (l_check_of : K.lookup f_check_of = some ⟨oc_check_of, od_check_of, .func (PySem.W.fnOf "check_of" "check_of" (defArgs s_check_of) (defBody s_check_of) (defScope s_check_of) .none kV_check_of dc_check_of pm_check_of an_check_of cd_check_of ct_check_of), sl_check_of⟩)
    (c_check_of : PySem.W.codeIn K cd_check_of "check_of" = true)
    (k_check_of : PySem.W.keepIn K (.ref f_check_of) = true)
    (a_number_bytes : PySem.W.nsIn K mainGlobals "number_bytes" = some (some (.ref f_number_bytes)))
    (l_number_bytes : K.lookup f_number_bytes = some ⟨oc_number_bytes, od_number_bytes, .func (PySem.W.fnOf "number_bytes" "number_bytes" (defArgs s_number_bytes) (defBody s_number_bytes) (defScope s_number_bytes) .none kV_number_bytes dc_number_bytes pm_number_bytes an_number_bytes cd_number_bytes ct_number_bytes), sl_number_bytes⟩)
    (c_number_bytes : PySem.W.codeIn K cd_number_bytes "number_bytes" = true)
    (k_number_bytes : PySem.W.keepIn K (.ref f_number_bytes) = true)
    (a_sealed : PySem.W.nsIn K mainGlobals "sealed" = some (some (.ref f_sealed)))
    (l_sealed : K.lookup f_sealed = some ⟨oc_sealed, od_sealed, .func (PySem.W.fnOf "sealed" "sealed" (defArgs s_sealed) (defBody s_sealed) (defScope s_sealed) .none kV_sealed dc_sealed pm_sealed an_sealed cd_sealed ct_sealed), sl_sealed⟩)
    (c_sealed : PySem.W.codeIn K cd_sealed "sealed" = true)
    (k_sealed : PySem.W.keepIn K (.ref f_sealed) = true)
    (a_opened : PySem.W.nsIn K mainGlobals "opened" = some (some (.ref f_opened)))
    (l_opened : K.lookup f_opened = some ⟨oc_opened, od_opened, .func (PySem.W.fnOf "opened" "opened" (defArgs s_opened) (defBody s_opened) (defScope s_opened) .none kV_opened dc_opened pm_opened an_opened cd_opened ct_opened), sl_opened⟩)
    (c_opened : PySem.W.codeIn K cd_opened "opened" = true)
    (k_opened : PySem.W.keepIn K (.ref f_opened) = true)
    (a__law_opened : PySem.W.nsIn K mainGlobals "_law_opened" = some (some (.ref f__law_opened)))
    (l__law_opened : K.lookup f__law_opened = some ⟨oc__law_opened, od__law_opened, .func (PySem.W.fnOf "_law_opened" "_law_opened" (defArgs s__law_opened) (defBody s__law_opened) (defScope s__law_opened) .none kV__law_opened dc__law_opened pm__law_opened an__law_opened cd__law_opened ct__law_opened), sl__law_opened⟩)
    (c__law_opened : PySem.W.codeIn K cd__law_opened "_law_opened" = true)
    (k__law_opened : PySem.W.keepIn K (.ref f__law_opened) = true)
    (a__law_place : PySem.W.nsIn K mainGlobals "_law_place" = some (some (.ref f__law_place)))
    (l__law_place : K.lookup f__law_place = some ⟨oc__law_place, od__law_place, .func (PySem.W.fnOf "_law_place" "_law_place" (defArgs s__law_place) (defBody s__law_place) (defScope s__law_place) .none kV__law_place dc__law_place pm__law_place an__law_place cd__law_place ct__law_place), sl__law_place⟩)
    (c__law_place : PySem.W.codeIn K cd__law_place "_law_place" = true)
    (k__law_place : PySem.W.keepIn K (.ref f__law_place) = true)
    (a__law_read : PySem.W.nsIn K mainGlobals "_law_read" = some (some (.ref f__law_read)))
    (l__law_read : K.lookup f__law_read = some ⟨oc__law_read, od__law_read, .func (PySem.W.fnOf "_law_read" "_law_read" (defArgs s__law_read) (defBody s__law_read) (defScope s__law_read) .none kV__law_read dc__law_read pm__law_read an__law_read cd__law_read ct__law_read), sl__law_read⟩)
    (c__law_read : PySem.W.codeIn K cd__law_read "_law_read" = true)
    (k__law_read : PySem.W.keepIn K (.ref f__law_read) = true)
    (a__law_refused : PySem.W.nsIn K mainGlobals "_law_refused" = some (some (.ref f__law_refused)))
    (l__law_refused : K.lookup f__law_refused = some ⟨oc__law_refused, od__law_refused, .func (PySem.W.fnOf "_law_refused" "_law_refused" (defArgs s__law_refused) (defBody s__law_refused) (defScope s__law_refused) .none kV__law_refused dc__law_refused pm__law_refused an__law_refused cd__law_refused ct__law_refused), sl__law_refused⟩)
    (c__law_refused : PySem.W.codeIn K cd__law_refused "_law_refused" = true)
    (k__law_refused : PySem.W.keepIn K (.ref f__law_refused) = true)
    (a__law_same : PySem.W.nsIn K mainGlobals "_law_same" = some (some (.ref f__law_same)))
    (l__law_same : K.lookup f__law_same = some ⟨oc__law_same, od__law_same, .func (PySem.W.fnOf "_law_same" "_law_same" (defArgs s__law_same) (defBody s__law_same) (defScope s__law_same) .none kV__law_same dc__law_same pm__law_same an__law_same cd__law_same ct__law_same), sl__law_same⟩)
    (c__law_same : PySem.W.codeIn K cd__law_same "_law_same" = true)
    (k__law_same : PySem.W.keepIn K (.ref f__law_same) = true)
    (a__law_seal : PySem.W.nsIn K mainGlobals "_law_seal" = some (some (.ref f__law_seal)))
    (l__law_seal : K.lookup f__law_seal = some ⟨oc__law_seal, od__law_seal, .func (PySem.W.fnOf "_law_seal" "_law_seal" (defArgs s__law_seal) (defBody s__law_seal) (defScope s__law_seal) .none kV__law_seal dc__law_seal pm__law_seal an__law_seal cd__law_seal ct__law_seal), sl__law_seal⟩)
    (c__law_seal : PySem.W.codeIn K cd__law_seal "_law_seal" = true)
    (k__law_seal : PySem.W.keepIn K (.ref f__law_seal) = true)
    (a_folded : PySem.W.nsIn K mainGlobals "folded" = some (some (.ref f_folded)))
    (l_folded : K.lookup f_folded = some ⟨oc_folded, od_folded, .func (PySem.W.fnOf "folded" "folded" (defArgs s_folded) (defBody s_folded) (defScope s_folded) .none kV_folded dc_folded pm_folded an_folded cd_folded ct_folded), sl_folded⟩)
    (c_folded : PySem.W.codeIn K cd_folded "folded" = true)
    (k_folded : PySem.W.keepIn K (.ref f_folded) = true)
    (a_numbers_bytes : PySem.W.nsIn K mainGlobals "numbers_bytes" = some (some (.ref f_numbers_bytes)))
    (l_numbers_bytes : K.lookup f_numbers_bytes = some ⟨oc_numbers_bytes, od_numbers_bytes, .func (PySem.W.fnOf "numbers_bytes" "numbers_bytes" (defArgs s_numbers_bytes) (defBody s_numbers_bytes) (defScope s_numbers_bytes) .none kV_numbers_bytes dc_numbers_bytes pm_numbers_bytes an_numbers_bytes cd_numbers_bytes ct_numbers_bytes), sl_numbers_bytes⟩)
    (c_numbers_bytes : PySem.W.codeIn K cd_numbers_bytes "numbers_bytes" = true)
    (k_numbers_bytes : PySem.W.keepIn K (.ref f_numbers_bytes) = true)
    (a_read_numbers : PySem.W.nsIn K mainGlobals "read_numbers" = some (some (.ref f_read_numbers)))
    (l_read_numbers : K.lookup f_read_numbers = some ⟨oc_read_numbers, od_read_numbers, .func (PySem.W.fnOf "read_numbers" "read_numbers" (defArgs s_read_numbers) (defBody s_read_numbers) (defScope s_read_numbers) .none kV_read_numbers dc_read_numbers pm_read_numbers an_read_numbers cd_read_numbers ct_read_numbers), sl_read_numbers⟩)
    (c_read_numbers : PySem.W.codeIn K cd_read_numbers "read_numbers" = true)
    (k_read_numbers : PySem.W.keepIn K (.ref f_read_numbers) = true)
    (a_unfolded : PySem.W.nsIn K mainGlobals "unfolded" = some (some (.ref f_unfolded)))
    (l_unfolded : K.lookup f_unfolded = some ⟨oc_unfolded, od_unfolded, .func (PySem.W.fnOf "unfolded" "unfolded" (defArgs s_unfolded) (defBody s_unfolded) (defScope s_unfolded) .none kV_unfolded dc_unfolded pm_unfolded an_unfolded cd_unfolded ct_unfolded), sl_unfolded⟩)
    (c_unfolded : PySem.W.codeIn K cd_unfolded "unfolded" = true)
    (k_unfolded : PySem.W.keepIn K (.ref f_unfolded) = true)
    (a_law : PySem.W.nsIn K mainGlobals "law" = some (some (.ref f_law)))
    (l_law : K.lookup f_law = some ⟨oc_law, od_law, .func (PySem.W.fnOf "law" "law" (defArgs s_law) (defBody s_law) (defScope s_law) .none kV_law dc_law pm_law an_law cd_law ct_law), sl_law⟩)
    (c_law : PySem.W.codeIn K cd_law "law" = true)
    (k_law : PySem.W.keepIn K (.ref f_law) = true)
    (z_all : PySem.W.nsIn K mainGlobals "all" = some none)
    (z_bool : PySem.W.nsIn K mainGlobals "bool" = some none)
    (z_int : PySem.W.nsIn K mainGlobals "int" = some none)
    (z_isinstance : PySem.W.nsIn K mainGlobals "isinstance" = some none)
    (z_len : PySem.W.nsIn K mainGlobals "len" = some none)
    (z_list : PySem.W.nsIn K mainGlobals "list" = some none)
    (z_min : PySem.W.nsIn K mainGlobals "min" = some none)
    (z_range : PySem.W.nsIn K mainGlobals "range" = some none)
    (z_str : PySem.W.nsIn K mainGlobals "str" = some none)
    (z_tuple : PySem.W.nsIn K mainGlobals "tuple" = some none)
    (g_ALONE : PySem.W.nsIn K mainGlobals "ALONE" = some (some (.int 192 t_ALONE)))
    (g_BYTE : PySem.W.nsIn K mainGlobals "BYTE" = some (some (.int 256 t_BYTE)))
    (g_CHECK : PySem.W.nsIn K mainGlobals "CHECK" = some (some (.int 3 t_CHECK)))
    (g_ROUND : PySem.W.nsIn K mainGlobals "ROUND" = some (some (.int 16777213 t_ROUND)))
    (g_STEP : PySem.W.nsIn K mainGlobals "STEP" = some (some (.int 259 t_STEP)))
    (z_super : PySem.W.nsIn K mainGlobals "super" = some none)
    (aC_BadBytes : PySem.W.nsIn K mainGlobals "BadBytes" = some (some (.ref C_BadBytes)))
    (xL_BadBytes : K.lookup C_BadBytes = some (excClassObj nm_BadBytes q_BadBytes C_BadBytes N_BadBytes bs_BadBytes bm_BadBytes true sn_BadBytes sub_BadBytes ab_BadBytes col_BadBytes dd_BadBytes m0_BadBytes m1_BadBytes m2_BadBytes m3_BadBytes m5_BadBytes "ValueError.__new__"))
    (hbm_BadBytes : refsVE bm_BadBytes = true)
    (hal_BadBytes : PySem.W.alongIn K "__init__" (((Value.ref C_BadBytes :: bm_BadBytes).dropWhile (· != .ref C_BadBytes)).drop 1) = some (some (.builtin "ValueError.__init__")))
    (mro_BadBytes : PySem.W.mroIn K C_BadBytes (.ref C_BadBytes) = some true)
    (sa_BadBytes : PySem.W.findIn K (.ref C_BadBytes) "__setattr__" = some (some (.builtin "object.__setattr__")))
    (noF_BadBytes : PySem.W.findIn K (.ref C_BadBytes) "place" = some none)
    (iC_BadBytes : PySem.W.findIn K (.ref C_BadBytes) "__init__" = some (some (.ref fI_BadBytes)))
    (tC_BadBytes : PySem.W.typeIn K (.ref fI_BadBytes) = some (.type "function"))
    (kC_BadBytes : PySem.W.keepIn K (.ref C_BadBytes) = true)
    (exC_BadBytes : PySem.W.subIn K (.ref C_BadBytes) (.type "BaseException") = some true)
    (vaC_BadBytes : PySem.W.subIn K (.ref C_BadBytes) (.type "ValueError") = some true)
    (tyC_BadBytes : PySem.W.typeIn K (.ref C_BadBytes) = some (.type "type"))
    (op_BadBytes : PySem.W.nsIn K PySem.cStatics "thirdparty.any" = some none)
    (lI_BadBytes : K.lookup fI_BadBytes = some ⟨oc1_BadBytes, od1_BadBytes, .func (PySem.W.ksFn "__init__" "BadBytes.__init__" (DLX.iA "place" ⟨6, 17, 6, 21⟩ ⟨6, 23, 6, 28⟩) (DLX.iB "bad bytes at " "place" ⟨7, 8, 7, 13⟩ ⟨7, 8, 7, 15⟩ ⟨7, 8, 7, 24⟩ ⟨7, 25, 7, 40⟩ ⟨7, 43, 7, 46⟩ ⟨7, 47, 7, 52⟩ ⟨7, 43, 7, 53⟩ ⟨7, 25, 7, 53⟩ ⟨7, 8, 7, 54⟩ ⟨7, 8, 7, 54⟩ ⟨8, 8, 8, 12⟩ ⟨8, 8, 8, 18⟩ ⟨8, 21, 8, 26⟩ ⟨8, 8, 8, 26⟩) (DLX.iS "place") .none kV1_BadBytes doc1_BadBytes pm1_BadBytes an1_BadBytes (.ref cda_BadBytes) ct1_BadBytes cc_BadBytes), osl_BadBytes⟩)
    (cI_BadBytes : PySem.W.codeIn K (.ref cda_BadBytes) "BadBytes.__init__" = true)
    (lc_BadBytes : K.lookup cda_BadBytes = some ⟨ccl_BadBytes, cdd_BadBytes, .fields vs_BadBytes, ccs_BadBytes⟩)
    (v2_BadBytes : vs_BadBytes[2]? = some (.str file_BadBytes tf_BadBytes))
    (hf_BadBytes : ((PySem.Challenge.pw_playrolled_k18_whole_numbers_and_seals.main.file : Str) == file_BadBytes) = true)
    (lcc_BadBytes : K.lookup cc_BadBytes = some ⟨cl_BadBytes, cld_BadBytes, .cell (some (.ref C_BadBytes)), csl_BadBytes⟩)
    (te_BadBytes : PySem.W.exmOne K (.ref C_BadBytes) (.ref C_BadBytes) = some true)
    (ga_BadBytes : PySem.W.findIn K (.ref C_BadBytes) "__getattribute__" = some (some (.builtin "BaseException.__getattribute__")))
    (gg_BadBytes : PySem.W.findIn K (.ref C_BadBytes) "__getattr__" = some none)
    (hdC_BadBytes : PySem.W.hasDictIn K C_BadBytes = true) :
    ∃ fd : FuncData, (∀ (s : Shared) (v : Value), BindsTo s fd ⟨[v], []⟩ [("script", v)]) ∧ ∀ base : Heap, K.In base → base.Ns mainGlobals mg → FnOk PySem.Challenge.pw_playrolled_k18_whole_numbers_and_seals w K mg base (L2.CX PySem.Challenge.pw_playrolled_k18_whole_numbers_and_seals w) 13 fa fd ["script"] (spTop K) := by
  have e := hfa.symm.trans (PySem.W.mg_of X G a_law)
  cases e
  have T : Txt PySem.Challenge.pw_playrolled_k18_whole_numbers_and_seals K mg (fun _ => C_BadBytes) := ⟨PySem.W.mg_none_of X G z_all,
    PySem.W.mg_none_of X G z_bool,
    PySem.W.mg_none_of X G z_int,
    PySem.W.mg_none_of X G z_isinstance,
    PySem.W.mg_none_of X G z_len,
    PySem.W.mg_none_of X G z_list,
    PySem.W.mg_none_of X G z_min,
    PySem.W.mg_none_of X G z_range,
    PySem.W.mg_none_of X G z_str,
    PySem.W.mg_none_of X G z_tuple,
    ⟨_, .int 192, PySem.W.mg_of X G g_ALONE, ⟨_, rfl⟩, fun _ => .int _⟩,
    ⟨_, .int 256, PySem.W.mg_of X G g_BYTE, ⟨_, rfl⟩, fun _ => .int _⟩,
    ⟨_, .int 3, PySem.W.mg_of X G g_CHECK, ⟨_, rfl⟩, fun _ => .int _⟩,
    ⟨_, .int 16777213, PySem.W.mg_of X G g_ROUND, ⟨_, rfl⟩, fun _ => .int _⟩,
    ⟨_, .int 259, PySem.W.mg_of X G g_STEP, ⟨_, rfl⟩, fun _ => .int _⟩,
    excT_mk X G aC_BadBytes z_super z_str xL_BadBytes hbm_BadBytes hal_BadBytes mro_BadBytes sa_BadBytes noF_BadBytes iC_BadBytes tC_BadBytes kC_BadBytes exC_BadBytes vaC_BadBytes tyC_BadBytes op_BadBytes lI_BadBytes cI_BadBytes lc_BadBytes v2_BadBytes hf_BadBytes lcc_BadBytes (fun L a => ⟨_, rfl⟩) (fun _ _ _ _ _ _ _ _ _ _ _ _ => rfl) (by first | rfl | decide +kernel) (by decide) (by decide) (by decide) (by decide) (by decide) (by decide) te_BadBytes ga_BadBytes gg_BadBytes hdC_BadBytes⟩
  have F__law_box := fun_mk (st := s__law_box) l__law_box c__law_box k__law_box
  have b__law_box := F__law_box.binds (ps := ["script"]) fun _ _ _ _ _ _ us hl => match us, hl with | [_], _ => rfl
  have F__law_check := fun_mk (st := s__law_check) l__law_check c__law_check k__law_check
  have b__law_check := F__law_check.binds (ps := ["data"]) fun _ _ _ _ _ _ us hl => match us, hl with | [_], _ => rfl
  have F__law_load := fun_mk (st := s__law_load) l__law_load c__law_load k__law_load
  have b__law_load := F__law_load.binds (ps := ["box"]) fun _ _ _ _ _ _ us hl => match us, hl with | [_], _ => rfl
  have F__law_draw := fun_mk (st := s__law_draw) l__law_draw c__law_draw k__law_draw
  have b__law_draw := F__law_draw.binds (ps := ["box", "many"]) fun _ _ _ _ _ _ us hl => match us, hl with | [_, _], _ => rfl
  have F__law_number := fun_mk (st := s__law_number) l__law_number c__law_number k__law_number
  have b__law_number := F__law_number.binds (ps := ["number"]) fun _ _ _ _ _ _ us hl => match us, hl with | [_], _ => rfl
  have F_byte_at := fun_mk (st := s_byte_at) l_byte_at c_byte_at k_byte_at
  have b_byte_at := F_byte_at.binds (ps := ["data", "place"]) fun _ _ _ _ _ _ us hl => match us, hl with | [_, _], _ => rfl
  have F_read_number := fun_mk (st := s_read_number) l_read_number c_read_number k_read_number
  have b_read_number := F_read_number.binds (ps := ["data", "place"]) fun _ _ _ _ _ _ us hl => match us, hl with | [_, _], _ => rfl
  have F_check_of := fun_mk (st := s_check_of) l_check_of c_check_of k_check_of
  have b_check_of := F_check_of.binds (ps := ["data"]) fun _ _ _ _ _ _ us hl => match us, hl with | [_], _ => rfl
  have F_number_bytes := fun_mk (st := s_number_bytes) l_number_bytes c_number_bytes k_number_bytes
  have b_number_bytes := F_number_bytes.binds (ps := ["number"]) fun _ _ _ _ _ _ us hl => match us, hl with | [_], _ => rfl
  have F_sealed := fun_mk (st := s_sealed) l_sealed c_sealed k_sealed
  have b_sealed := F_sealed.binds (ps := ["data"]) fun _ _ _ _ _ _ us hl => match us, hl with | [_], _ => rfl
  have F_opened := fun_mk (st := s_opened) l_opened c_opened k_opened
  have b_opened := F_opened.binds (ps := ["data"]) fun _ _ _ _ _ _ us hl => match us, hl with | [_], _ => rfl
  have F__law_opened := fun_mk (st := s__law_opened) l__law_opened c__law_opened k__law_opened
  have b__law_opened := F__law_opened.binds (ps := ["data"]) fun _ _ _ _ _ _ us hl => match us, hl with | [_], _ => rfl
  have F__law_place := fun_mk (st := s__law_place) l__law_place c__law_place k__law_place
  have b__law_place := F__law_place.binds (ps := ["data", "place"]) fun _ _ _ _ _ _ us hl => match us, hl with | [_, _], _ => rfl
  have F__law_read := fun_mk (st := s__law_read) l__law_read c__law_read k__law_read
  have b__law_read := F__law_read.binds (ps := ["data", "place"]) fun _ _ _ _ _ _ us hl => match us, hl with | [_, _], _ => rfl
  have F__law_refused := fun_mk (st := s__law_refused) l__law_refused c__law_refused k__law_refused
  have b__law_refused := F__law_refused.binds (ps := ["data"]) fun _ _ _ _ _ _ us hl => match us, hl with | [_], _ => rfl
  have F__law_same := fun_mk (st := s__law_same) l__law_same c__law_same k__law_same
  have b__law_same := F__law_same.binds (ps := ["a", "b"]) fun _ _ _ _ _ _ us hl => match us, hl with | [_, _], _ => rfl
  have F__law_seal := fun_mk (st := s__law_seal) l__law_seal c__law_seal k__law_seal
  have b__law_seal := F__law_seal.binds (ps := ["data"]) fun _ _ _ _ _ _ us hl => match us, hl with | [_], _ => rfl
  have F_folded := fun_mk (st := s_folded) l_folded c_folded k_folded
  have b_folded := F_folded.binds (ps := ["number"]) fun _ _ _ _ _ _ us hl => match us, hl with | [_], _ => rfl
  have F_numbers_bytes := fun_mk (st := s_numbers_bytes) l_numbers_bytes c_numbers_bytes k_numbers_bytes
  have b_numbers_bytes := F_numbers_bytes.binds (ps := ["numbers"]) fun _ _ _ _ _ _ us hl => match us, hl with | [_], _ => rfl
  have F_read_numbers := fun_mk (st := s_read_numbers) l_read_numbers c_read_numbers k_read_numbers
  have b_read_numbers := F_read_numbers.binds (ps := ["data", "place", "many"]) fun _ _ _ _ _ _ us hl => match us, hl with | [_, _, _], _ => rfl
  have F_unfolded := fun_mk (st := s_unfolded) l_unfolded c_unfolded k_unfolded
  have b_unfolded := F_unfolded.binds (ps := ["number"]) fun _ _ _ _ _ _ us hl => match us, hl with | [_], _ => rfl
  have F_law := fun_mk (st := s_law) l_law c_law k_law
  refine ⟨PySem.W.fnOf "law" "law" (defArgs s_law) (defBody s_law) (defScope s_law) .none kV_law dc_law pm_law an_law cd_law ct_law, fun s v => .of_eq rfl, fun base _ _ => ?_⟩
  have G__law_box : DFn PySem.Challenge.pw_playrolled_k18_whole_numbers_and_seals w K mg base "_law_box" 1 W_box := ⟨f__law_box, _, _, PySem.W.mg_of X G a__law_box, k__law_box, b__law_box, ok__law_box F__law_box (PySem.W.mg_none_of X G z_list) (PySem.W.mg_none_of X G z_len)⟩
  have G__law_check : DFn PySem.Challenge.pw_playrolled_k18_whole_numbers_and_seals w K mg base "_law_check" 1 W__law_check := ⟨f__law_check, _, _, PySem.W.mg_of X G a__law_check, k__law_check, b__law_check, ok__law_check F__law_check T ⟩
  have G__law_load : HFn PySem.Challenge.pw_playrolled_k18_whole_numbers_and_seals w K mg base "_law_load" 1 spLoad := ⟨f__law_load, _, _, PySem.W.mg_of X G a__law_load, k__law_load, b__law_load, ok__law_load F__law_load (PySem.W.mg_none_of X G z_int) (PySem.W.mg_none_of X G z_len)⟩
  have G__law_draw : DFn PySem.Challenge.pw_playrolled_k18_whole_numbers_and_seals w K mg base "_law_draw" 2 W_draw := ⟨f__law_draw, _, _, PySem.W.mg_of X G a__law_draw, k__law_draw, b__law_draw, ok__law_draw F__law_draw (PySem.W.mg_none_of X G z_int) G__law_load⟩
  have G__law_number : DFn PySem.Challenge.pw_playrolled_k18_whole_numbers_and_seals w K mg base "_law_number" 1 W__law_number := ⟨f__law_number, _, _, PySem.W.mg_of X G a__law_number, k__law_number, b__law_number, ok__law_number F__law_number T ⟩
  have G_byte_at : DFn PySem.Challenge.pw_playrolled_k18_whole_numbers_and_seals w K mg base "byte_at" 1 (W_byte_at (fun _ => C_BadBytes)) := ⟨f_byte_at, _, _, PySem.W.mg_of X G a_byte_at, k_byte_at, b_byte_at, ok_byte_at F_byte_at T ⟩
  have G_read_number : DFn PySem.Challenge.pw_playrolled_k18_whole_numbers_and_seals w K mg base "read_number" 2 (W_read_number (fun _ => C_BadBytes)) := ⟨f_read_number, _, _, PySem.W.mg_of X G a_read_number, k_read_number, b_read_number, ok_read_number F_read_number T G_byte_at⟩
  have G_check_of : DFn PySem.Challenge.pw_playrolled_k18_whole_numbers_and_seals w K mg base "check_of" 1 W_check_of := ⟨f_check_of, _, _, PySem.W.mg_of X G a_check_of, k_check_of, b_check_of, ok_check_of F_check_of T ⟩
  have G_number_bytes : DFn PySem.Challenge.pw_playrolled_k18_whole_numbers_and_seals w K mg base "number_bytes" 1 W_number_bytes := ⟨f_number_bytes, _, _, PySem.W.mg_of X G a_number_bytes, k_number_bytes, b_number_bytes, ok_number_bytes F_number_bytes T ⟩
  have G_sealed : DFn PySem.Challenge.pw_playrolled_k18_whole_numbers_and_seals w K mg base "sealed" 2 W_sealed := ⟨f_sealed, _, _, PySem.W.mg_of X G a_sealed, k_sealed, b_sealed, ok_sealed F_sealed T G_check_of G_number_bytes⟩
  have G_opened : DFn PySem.Challenge.pw_playrolled_k18_whole_numbers_and_seals w K mg base "opened" 3 (W_opened (fun _ => C_BadBytes)) := ⟨f_opened, _, _, PySem.W.mg_of X G a_opened, k_opened, b_opened, ok_opened F_opened T G_read_number G_sealed⟩
  have G__law_opened : DFn PySem.Challenge.pw_playrolled_k18_whole_numbers_and_seals w K mg base "_law_opened" 4 (W__law_opened (fun _ => C_BadBytes)) := ⟨f__law_opened, _, _, PySem.W.mg_of X G a__law_opened, k__law_opened, b__law_opened, ok__law_opened F__law_opened T G_opened⟩
  have G__law_place : DFn PySem.Challenge.pw_playrolled_k18_whole_numbers_and_seals w K mg base "_law_place" 1 W__law_place := ⟨f__law_place, _, _, PySem.W.mg_of X G a__law_place, k__law_place, b__law_place, ok__law_place F__law_place T ⟩
  have G__law_read : DFn PySem.Challenge.pw_playrolled_k18_whole_numbers_and_seals w K mg base "_law_read" 3 (W__law_read (fun _ => C_BadBytes)) := ⟨f__law_read, _, _, PySem.W.mg_of X G a__law_read, k__law_read, b__law_read, ok__law_read F__law_read T G_read_number⟩
  have G__law_refused : DFn PySem.Challenge.pw_playrolled_k18_whole_numbers_and_seals w K mg base "_law_refused" 5 (W__law_refused (fun _ => C_BadBytes)) := ⟨f__law_refused, _, _, PySem.W.mg_of X G a__law_refused, k__law_refused, b__law_refused, ok__law_refused F__law_refused T G__law_opened⟩
  have G__law_same : DFn PySem.Challenge.pw_playrolled_k18_whole_numbers_and_seals w K mg base "_law_same" 12 (W__law_same 12) := ⟨f__law_same, _, _, PySem.W.mg_of X G a__law_same, k__law_same, b__law_same, ok__law_same F__law_same T b__law_same (PySem.W.mg_of X G a__law_same) k__law_same  12⟩
  have G__law_seal : DFn PySem.Challenge.pw_playrolled_k18_whole_numbers_and_seals w K mg base "_law_seal" 2 W__law_seal := ⟨f__law_seal, _, _, PySem.W.mg_of X G a__law_seal, k__law_seal, b__law_seal, ok__law_seal F__law_seal T G__law_check G__law_number⟩
  have G_folded : DFn PySem.Challenge.pw_playrolled_k18_whole_numbers_and_seals w K mg base "folded" 1 W_folded := ⟨f_folded, _, _, PySem.W.mg_of X G a_folded, k_folded, b_folded, ok_folded F_folded T ⟩
  have G_numbers_bytes : DFn PySem.Challenge.pw_playrolled_k18_whole_numbers_and_seals w K mg base "numbers_bytes" 2 W_numbers_bytes := ⟨f_numbers_bytes, _, _, PySem.W.mg_of X G a_numbers_bytes, k_numbers_bytes, b_numbers_bytes, ok_numbers_bytes F_numbers_bytes T G_number_bytes⟩
  have G_read_numbers : DFn PySem.Challenge.pw_playrolled_k18_whole_numbers_and_seals w K mg base "read_numbers" 3 (W_read_numbers (fun _ => C_BadBytes)) := ⟨f_read_numbers, _, _, PySem.W.mg_of X G a_read_numbers, k_read_numbers, b_read_numbers, ok_read_numbers F_read_numbers T G_read_number⟩
  have G_unfolded : DFn PySem.Challenge.pw_playrolled_k18_whole_numbers_and_seals w K mg base "unfolded" 1 W_unfolded := ⟨f_unfolded, _, _, PySem.W.mg_of X G a_unfolded, k_unfolded, b_unfolded, ok_unfolded F_unfolded T ⟩
  exact FnOk.imp (ok_law F_law T G__law_box G__law_check G__law_draw G__law_number G__law_opened G__law_place G__law_read G__law_refused G__law_same G__law_seal G_byte_at G_check_of G_folded G_number_bytes G_numbers_bytes G_read_numbers G_sealed G_unfolded) fun vs H Q E q => top_of (fun s ns hl Q E q => spec_law s ns hl q) vs H Q E q
end
end DL

open PySem PySem.W PyProof.Rows in
set_option maxRecDepth 100000 in
set_option maxHeartbeats 0 in
theorem PySem.Challenge.cw_playrolled_k18_whole_numbers_and_seals_holds : PySem.Challenge.rw_playrolled_k18_whole_numbers_and_seals.Holds := by
  w_on; o_law; k_head; (case hw => w_witness2)
  k_fill
  refine L2.walk_of (l := PySem.Challenge.rw_playrolled_k18_whole_numbers_and_seals) (n := 63) (k := 13) (x := "script") (CX := fun w => L2.CX PySem.Challenge.pw_playrolled_k18_whole_numbers_and_seals w) (sp := fun w => DL.spTop _) rfl (by decide) rfl ⟨rfl, by decide, by decide⟩ (fun w h Y => PySem.W.kIn_of Y) ?F (fun _ _ a ns hl _ hS => ⟨a, ns, rfl, hS, hl, fun _ => rfl⟩) (fun w H s e s' z => DL.cx_false H s e s' z)
  case F =>
    intro w mg fa h KX G hmg
    refine' DL.all_mk KX G hmg ?a__law_box ?l__law_box ?c__law_box ?k__law_box ?a__law_check ?l__law_check ?c__law_check ?k__law_check ?a__law_load ?l__law_load ?c__law_load ?k__law_load ?a__law_draw ?l__law_draw ?c__law_draw ?k__law_draw ?a__law_number ?l__law_number ?c__law_number ?k__law_number ?a_byte_at ?l_byte_at ?c_byte_at ?k_byte_at ?a_read_number ?l_read_number ?c_read_number ?k_read_number ?a_check_of ?l_check_of ?c_check_of ?k_check_of ?a_number_bytes ?l_number_bytes ?c_number_bytes ?k_number_bytes ?a_sealed ?l_sealed ?c_sealed ?k_sealed ?a_opened ?l_opened ?c_opened ?k_opened ?a__law_opened ?l__law_opened ?c__law_opened ?k__law_opened ?a__law_place ?l__law_place ?c__law_place ?k__law_place ?a__law_read ?l__law_read ?c__law_read ?k__law_read ?a__law_refused ?l__law_refused ?c__law_refused ?k__law_refused ?a__law_same ?l__law_same ?c__law_same ?k__law_same ?a__law_seal ?l__law_seal ?c__law_seal ?k__law_seal ?a_folded ?l_folded ?c_folded ?k_folded ?a_numbers_bytes ?l_numbers_bytes ?c_numbers_bytes ?k_numbers_bytes ?a_read_numbers ?l_read_numbers ?c_read_numbers ?k_read_numbers ?a_unfolded ?l_unfolded ?c_unfolded ?k_unfolded ?a_law ?l_law ?c_law ?k_law ?z_all ?z_bool ?z_int ?z_isinstance ?z_len ?z_list ?z_min ?z_range ?z_str ?z_tuple ?g_ALONE ?g_BYTE ?g_CHECK ?g_ROUND ?g_STEP ?z_super ?aC_BadBytes ?xL_BadBytes ?hbm_BadBytes ?hal_BadBytes ?mro_BadBytes ?sa_BadBytes ?noF_BadBytes ?iC_BadBytes ?tC_BadBytes ?kC_BadBytes ?exC_BadBytes ?vaC_BadBytes ?tyC_BadBytes ?op_BadBytes ?lI_BadBytes ?cI_BadBytes ?lc_BadBytes ?v2_BadBytes ?hf_BadBytes ?lcc_BadBytes ?te_BadBytes ?ga_BadBytes ?gg_BadBytes ?hdC_BadBytes
    (case a__law_box => k_is)
    (case l__law_box => k_is)
    (case c__law_box => k_is)
    (case k__law_box => k_is)
    (case a__law_check => k_is)
    (case l__law_check => k_is)
    (case c__law_check => k_is)
    (case k__law_check => k_is)
    (case a__law_load => k_is)
    (case l__law_load => k_is)
    (case c__law_load => k_is)
    (case k__law_load => k_is)
    (case a__law_draw => k_is)
    (case l__law_draw => k_is)
    (case c__law_draw => k_is)
    (case k__law_draw => k_is)
    (case a__law_number => k_is)
    (case l__law_number => k_is)
    (case c__law_number => k_is)
    (case k__law_number => k_is)
    (case a_byte_at => k_is)
    (case l_byte_at => k_is)
    (case c_byte_at => k_is)
    (case k_byte_at => k_is)
    (case a_read_number => k_is)
    (case l_read_number => k_is)
    (case c_read_number => k_is)
    (case k_read_number => k_is)
    (case a_check_of => k_is)
    (case l_check_of => k_is)
    (case c_check_of => k_is)
    (case k_check_of => k_is)
    (case a_number_bytes => k_is)
    (case l_number_bytes => k_is)
    (case c_number_bytes => k_is)
    (case k_number_bytes => k_is)
    (case a_sealed => k_is)
    (case l_sealed => k_is)
    (case c_sealed => k_is)
    (case k_sealed => k_is)
    (case a_opened => k_is)
    (case l_opened => k_is)
    (case c_opened => k_is)
    (case k_opened => k_is)
    (case a__law_opened => k_is)
    (case l__law_opened => k_is)
    (case c__law_opened => k_is)
    (case k__law_opened => k_is)
    (case a__law_place => k_is)
    (case l__law_place => k_is)
    (case c__law_place => k_is)
    (case k__law_place => k_is)
    (case a__law_read => k_is)
    (case l__law_read => k_is)
    (case c__law_read => k_is)
    (case k__law_read => k_is)
    (case a__law_refused => k_is)
    (case l__law_refused => k_is)
    (case c__law_refused => k_is)
    (case k__law_refused => k_is)
    (case a__law_same => k_is)
    (case l__law_same => k_is)
    (case c__law_same => k_is)
    (case k__law_same => k_is)
    (case a__law_seal => k_is)
    (case l__law_seal => k_is)
    (case c__law_seal => k_is)
    (case k__law_seal => k_is)
    (case a_folded => k_is)
    (case l_folded => k_is)
    (case c_folded => k_is)
    (case k_folded => k_is)
    (case a_numbers_bytes => k_is)
    (case l_numbers_bytes => k_is)
    (case c_numbers_bytes => k_is)
    (case k_numbers_bytes => k_is)
    (case a_read_numbers => k_is)
    (case l_read_numbers => k_is)
    (case c_read_numbers => k_is)
    (case k_read_numbers => k_is)
    (case a_unfolded => k_is)
    (case l_unfolded => k_is)
    (case c_unfolded => k_is)
    (case k_unfolded => k_is)
    (case a_law => k_is)
    (case l_law => k_is)
    (case c_law => k_is)
    (case k_law => k_is)
    (case z_all => k_is)
    (case z_bool => k_is)
    (case z_int => k_is)
    (case z_isinstance => k_is)
    (case z_len => k_is)
    (case z_list => k_is)
    (case z_min => k_is)
    (case z_range => k_is)
    (case z_str => k_is)
    (case z_tuple => k_is)
    (case g_ALONE => k_is)
    (case g_BYTE => k_is)
    (case g_CHECK => k_is)
    (case g_ROUND => k_is)
    (case g_STEP => k_is)
    (case z_super => k_is)
    (case aC_BadBytes => k_is)
    (case xL_BadBytes => k_is)
    (case hbm_BadBytes => first | rfl | decide +kernel)
    (case hal_BadBytes => first | kernel_rfl | rfl | decide +kernel)
    (case mro_BadBytes => k_is)
    (case sa_BadBytes => k_is)
    (case noF_BadBytes => k_is)
    (case iC_BadBytes => k_is)
    (case tC_BadBytes => k_is)
    (case kC_BadBytes => k_is)
    (case exC_BadBytes => k_is)
    (case vaC_BadBytes => k_is)
    (case tyC_BadBytes => k_is)
    (case op_BadBytes => k_is)
    (case lI_BadBytes => k_is)
    (case cI_BadBytes => k_is)
    (case lc_BadBytes => k_is)
    (case v2_BadBytes => rfl)
    (case hf_BadBytes => first | rfl | decide +kernel)
    (case lcc_BadBytes => k_is)
    (case te_BadBytes => first | kernel_rfl | rfl | decide +kernel)
    (case ga_BadBytes => k_is)
    (case gg_BadBytes => k_is)
    (case hdC_BadBytes => k_is)
