import PyProof.Rows.All
import Wide.All
import OpenK.AllK
import Wide.FinOn
import HandS.ForMost
import HandS.ForExc
import HandS.Walk
import HandS.Lambda
import HandS.CallSlots
import HandS.Wide
import HandS.TupAny
import HandS.IsInst
import HandS.Deep
import HandS.Flow
import HandS.RaiseMore
import HandS.SortInts
import HandS.Style
import HandS.Zip
import HandS.ExcInit
import HandS.ExcSuper
import KE.KExcSuper
import HandS.TryMany
import PyProof.ReprRoads
import HandS.Defaults
import HandS.TupMul
import HandS.EndOwn
import HandS.WideBits
import PyProof.Rows.TupDisplay
import KE.KDflt
import KE.KDictZip
import KE.GoesZip
import KE.GoesMore
import KE.GoesEnum
import HandS.Conv
import HandS.TupSets
import HandS.Set
import HandS.SetFor
import PySem.Challenge.RW_digitsaid_k09_whole_machines_and_numbers
set_option Elab.async false
set_option linter.all false
set_option maxRecDepth 100000
set_option maxHeartbeats 4000000
namespace Pd
open PySem PySem.Spec PyProof.Rows L2

def tabP : Addr := 401
def tabsT : List (Addr × Str) := [(tabP, "law.<locals>.<lambda>")]
def Soft (o : Option HO) : Prop := ∀ u, o = some u → (∀ ps, u ≠ .tbl ps) ∧ ∀ φ, u ≠ .ext φ
theorem Soft.none : Soft none := fun _ h => nomatch h
theorem soft_lst (xs : List V) : Soft (some (.lst xs)) := fun _ h => by cases h; exact ⟨(fun _ z => by cases z), (fun _ z => by cases z)⟩
theorem soft_own (a : Addr) : Soft (some (.own a)) := fun _ h => by cases h; exact ⟨(fun _ z => by cases z), (fun _ z => by cases z)⟩
theorem soft_dK (k : List (Key × V)) : Soft (some (.dK k)) := fun _ h => by cases h; exact ⟨(fun _ z => by cases z), (fun _ z => by cases z)⟩
theorem tabs_but {T : List (Addr × Str)} {H H' : Hp} {c : Addr} (t : LamX.Tabs T H) (hc : Soft (H c)) (h : ∀ b, b ≠ c → H' b = H b) : LamX.Tabs T H' := fun p hp => by
  obtain ⟨ps, h1, h2, h3⟩ := t p hp
  have n1 : p.1 ≠ c := fun z => by rw [z] at h1; exact (hc _ h1).1 ps rfl
  refine ⟨ps, by rw [h _ n1]; exact h1, h2, fun pos cv hcv => ?_⟩
  obtain ⟨d, e1, e2⟩ := h3 pos cv hcv
  have n2 : d ≠ c := fun z => by rw [z] at e2; exact (hc _ e2).2 _ rfl
  exact ⟨d, e1, by rw [h _ n2]; exact e2⟩
def noTab (H : Hp) : Hp := fun a => match H a with
  | some (.tbl _) => none
  | o => o
theorem noTab_nt (H : Hp) (a : Addr) (ps : Array Value) : noTab H a ≠ some (.tbl ps) := fun z => by
  unfold noTab at z
  split at z
  · cases z
  · rename_i h
    exact h _ z
theorem noTab_sub (H : Hp) {a : Addr} {o : HO} (h : noTab H a = some o) : H a = some o := by
  unfold noTab at h
  split at h
  · cases h
  · exact h
theorem noTab_of {H : Hp} {a : Addr} {o : HO} (h : H a = some o) (ho : ∀ ps, o ≠ .tbl ps) : noTab H a = some o := by
  unfold noTab
  split
  · rename_i ps q
    rw [h] at q
    cases q
    exact absurd rfl (ho ps)
  · exact h
theorem noTab_none {H : Hp} {a : Addr} (h : H a = none) : noTab H a = none := by
  unfold noTab
  rw [h]
inductive D where
  | non | bl (b : Bool) | int (i : Int) | str (x : Str) | tup (xs : List D) | lst (xs : List D) | obj (c : Str) (fs : List (Str × D)) | dk (kvs : List (Key × D)) | dt (kvs : List (List Key × D)) | pen

structure Pen where
  cells : List Int
  at_ : Int
  digits : Int
  count : Int
  fold : Int

structure Xn where
  c : Str
  fs : List (Str × D)

inductive Sl where
  | v (d : D) | own (xs : List D) | own2 (rows : List (List D)) | ins (c : Str) (fs : List (Str × D)) | dk (kvs : List (Key × D)) | dt (kvs : List (List Key × D))
abbrev Ev := List (Option Sl)

inductive Res (α : Type) where
  | ok (a : α) (e : Ev) (p : Pen)
  | exc (x : Xn) (e : Ev) (p : Pen)
  | bad
abbrev EM := Ev → Pen → Res D
abbrev TM := Ev → Pen → Res Bool
abbrev AM := Ev → Pen → Res (List D)
inductive SR where
  | nx (e : Ev) (p : Pen)
  | rt (d : D) (e : Ev) (p : Pen)
  | bk (e : Ev) (p : Pen)
  | ct (e : Ev) (p : Pen)
  | exc (x : Xn) (e : Ev) (p : Pen)
  | bad
abbrev SM := Ev → Pen → SR
inductive FR where
  | ok (d : D) (p : Pen)
  | exc (x : Xn) (p : Pen)
  | bad
abbrev Fn := List D → Pen → FR

def Res.bind {α β : Type} (r : Res α) (k : α → Ev → Pen → Res β) : Res β := match r with
  | .ok a e p => k a e p
  | .exc x e p => .exc x e p
  | .bad => .bad

structure Wd where
  K : PySem.W.Frag
  mg : Str → Option Value
  pa : Addr
  B : Hp
  G0 : Hp
  sf : Addr

def Sub (G H : Hp) : Prop := ∀ a o, G a = some o → H a = some o
theorem Sub.refl (H : Hp) : Sub H H := fun _ _ h => h
theorem Sub.trans {H H1 H2 : Hp} (a : Sub H H1) (b : Sub H1 H2) : Sub H H2 := fun c o h => b c o (a c o h)
theorem Sub.rd {G H : Hp} (s : Sub G H) {a : Addr} {u : HO} (h : Rd G a u) : Rd H a u := by
  rcases h with h | ⟨o, h⟩
  · exact .inl (s _ _ h)
  · exact .inr ⟨o, s _ _ h⟩
theorem Sub.l {K : PySem.W.Frag} {G H : Hp} (s : Sub G H) {a : Addr} {xs : List V} (h : SqL K G a xs) : SqL K H a xs := by
  rcases h with h | h
  · exact .inl (s.rd h)
  · exact .inr h
theorem Sub.t {K : PySem.W.Frag} {G H : Hp} (s : Sub G H) {a : Addr} {xs : List V} (h : SqT K G a xs) : SqT K H a xs := by
  rcases h with h | h
  · exact .inl (s.rd h)
  · exact .inr h
theorem Sub.new {H : Hp} {p : Addr} {o : HO} (h : H p = none) : Sub H (upd H p o) := fun a u e => by
  rw [upd_ne (ne_of_none e h)]
  exact e
theorem Sub.upd2 {G H : Hp} (s : Sub G H) (p : Addr) (o : HO) : Sub (upd G p o) (upd H p o) := fun a u e => by
  by_cases q : a = p
  · subst q
    rw [upd_same] at e ⊢
    exact e
  · rw [upd_ne q] at e ⊢
    exact s _ _ e
theorem Sub.mut {G H : Hp} (s : Sub G H) {p : Addr} {o : HO} (h : G p = none) : Sub G (upd H p o) := fun a u e => by
  rw [upd_ne (ne_of_none e h)]
  exact s _ _ e

mutual
inductive Rep (K : PySem.W.Frag) (mg : Str → Option Value) (pa : Addr) (G : Hp) : V → D → Prop
  | non : Rep K mg pa G .non .non
  | bl (b : Bool) : Rep K mg pa G (.bl b) (.bl b)
  | int (i : Int) : Rep K mg pa G (.int i) (.int i)
  | str (x : Str) : Rep K mg pa G (.str x) (.str x)
  | tup {a : Addr} {vs : List V} {ds : List D} : G a = some (.tup vs) → Reps K mg pa G vs ds → Rep K mg pa G (.ref a) (.tup ds)
  | lst {a : Addr} {vs : List V} {ds : List D} : G a = some (.lst vs) → Reps K mg pa G vs ds → Rep K mg pa G (.ref a) (.lst ds)
  | obj {c : Str} {C a dx : Addr} {fs : List (Str × V)} {gs : List (Str × D)} : mg c = some (.ref C) → G a = some (.ins C dx fs) → fs.map (·.1) = gs.map (·.1) → Reps K mg pa G (fs.map (·.2)) (gs.map (·.2)) → Rep K mg pa G (.ref a) (.obj c gs)
  | dk {a : Addr} {fs : List (Key × V)} {gs : List (Key × D)} : G a = some (.dK fs) → fs.map (·.1) = gs.map (·.1) → Reps K mg pa G (fs.map (·.2)) (gs.map (·.2)) → Rep K mg pa G (.ref a) (.dk gs)
  | dt {a : Addr} {fs : List (List Key × V)} {gs : List (List Key × D)} : G a = some (.dT fs) → fs.map (·.1) = gs.map (·.1) → Reps K mg pa G (fs.map (·.2)) (gs.map (·.2)) → Rep K mg pa G (.ref a) (.dt gs)
  | pen : Rep K mg pa G (.ref pa) .pen
inductive Reps (K : PySem.W.Frag) (mg : Str → Option Value) (pa : Addr) (G : Hp) : List V → List D → Prop
  | nil : Reps K mg pa G [] []
  | cons {v : V} {vs : List V} {d : D} {ds : List D} : Rep K mg pa G v d → Reps K mg pa G vs ds → Reps K mg pa G (v :: vs) (d :: ds)
end

section
variable {K : PySem.W.Frag} {mg : Str → Option Value} {pa : Addr} {G G' : Hp}
mutual
theorem Rep.mono (s : Sub G G') : ∀ {v : V} {d : D}, Rep K mg pa G v d → Rep K mg pa G' v d
  | _, _, .non => .non
  | _, _, .bl b => .bl b
  | _, _, .int i => .int i
  | _, _, .str x => .str x
  | _, _, .tup h r => .tup (s _ _ h) (Reps.mono s r)
  | _, _, .lst h r => .lst (s _ _ h) (Reps.mono s r)
  | _, _, .obj a b c r => .obj a (s _ _ b) c (Reps.mono s r)
  | _, _, .dk b c r => .dk (s _ _ b) c (Reps.mono s r)
  | _, _, .dt b c r => .dt (s _ _ b) c (Reps.mono s r)
  | _, _, .pen => .pen
theorem Reps.mono (s : Sub G G') : ∀ {vs : List V} {ds : List D}, Reps K mg pa G vs ds → Reps K mg pa G' vs ds
  | _, _, .nil => .nil
  | _, _, .cons h r => .cons (Rep.mono s h) (Reps.mono s r)
end
theorem Reps.length : ∀ {vs : List V} {ds : List D}, Reps K mg pa G vs ds → vs.length = ds.length
  | _, _, .nil => rfl
  | _, _, .cons _ r => congrArg (· + 1) (Reps.length r)
theorem Reps.append : ∀ {vs us : List V} {ds es : List D}, Reps K mg pa G vs ds → Reps K mg pa G us es → Reps K mg pa G (vs ++ us) (ds ++ es)
  | _, _, _, _, .nil, s => s
  | _, _, _, _, .cons h r, s => .cons h (Reps.append r s)
theorem Reps.get : ∀ {vs : List V} {ds : List D} {i : Nat} {d : D}, Reps K mg pa G vs ds → ds[i]? = some d → ∃ v, vs[i]? = some v ∧ Rep K mg pa G v d
  | _, _, _, _, .nil, e => by simp at e
  | _, _, 0, _, .cons h _, e => by simp at e; subst e; exact ⟨_, rfl, h⟩
  | _, _, i + 1, _, .cons _ r, e => by
    obtain ⟨v, h1, h2⟩ := Reps.get (i := i) r (by simpa using e)
    exact ⟨v, by simpa using h1, h2⟩
theorem Reps.getV : ∀ {vs : List V} {ds : List D} {i : Nat} {v : V}, Reps K mg pa G vs ds → vs[i]? = some v → ∃ d, ds[i]? = some d ∧ Rep K mg pa G v d
  | _, _, _, _, .nil, e => by simp at e
  | _, _, 0, _, .cons h _, e => by simp at e; subst e; exact ⟨_, rfl, h⟩
  | _, _, i + 1, _, .cons _ r, e => by
    obtain ⟨v, h1, h2⟩ := Reps.getV (i := i) r (by simpa using e)
    exact ⟨v, by simpa using h1, h2⟩
theorem Reps.take : ∀ {vs : List V} {ds : List D} (n : Nat), Reps K mg pa G vs ds → Reps K mg pa G (vs.take n) (ds.take n)
  | _, _, 0, _ => .nil
  | _, _, _ + 1, .nil => .nil
  | _, _, n + 1, .cons h r => .cons h (Reps.take n r)
theorem Reps.drop : ∀ {vs : List V} {ds : List D} (n : Nat), Reps K mg pa G vs ds → Reps K mg pa G (vs.drop n) (ds.drop n)
  | _, _, 0, r => r
  | _, _, _ + 1, .nil => .nil
  | _, _, n + 1, .cons _ r => Reps.drop n r
theorem Reps.reverse {vs : List V} {ds : List D} (r : Reps K mg pa G vs ds) : Reps K mg pa G vs.reverse ds.reverse := by
  induction vs generalizing ds with
  | nil => cases r; exact .nil
  | cons v vs ih =>
    cases r with
    | cons h r =>
      rw [List.reverse_cons, List.reverse_cons]
      exact (ih r).append (.cons h .nil)
theorem Reps.set : ∀ {vs : List V} {ds : List D} {v : V} {d : D} (i : Nat), Reps K mg pa G vs ds → Rep K mg pa G v d → Reps K mg pa G (vs.set i v) (ds.set i d)
  | _, _, _, _, _, .nil, _ => .nil
  | _, _, _, _, 0, .cons _ r, h => .cons h r
  | _, _, _, _, i + 1, .cons g r, h => .cons g (Reps.set i r h)
theorem Reps.ints : ∀ (ns : List Int), Reps K mg pa G (ns.map V.int) (ns.map D.int)
  | [] => .nil
  | n :: ns => .cons (.int n) (Reps.ints ns)
end

def PenAt (pa : Addr) (p : Pen) (G H : Hp) : Prop := G pa = none ∧ ∃ ca, G ca = some (.lst (p.cells.map V.int)) ∧
  H pa = some (.dK [(.inr "cells", .ref ca), (.inr "at", .int p.at_), (.inr "digits", .int p.digits), (.inr "count", .int p.count), (.inr "fold", .int p.fold)])

section
variable (W : Wd)
inductive RowsR (G H : Hp) : List Addr → List (List D) → Prop
  | nil : RowsR G H [] []
  | cons {b : Addr} {bs : List Addr} {vs : List V} {xs : List D} {rows : List (List D)} : H b = some (.lst vs) → Reps W.K W.mg W.pa G vs xs → RowsR G H bs rows → RowsR G H (b :: bs) (xs :: rows)
inductive SlR (G H : Hp) : Option V → Option Sl → List Addr → Prop
  | emp {s : Option V} : SlR G H s none []
  | val {v : V} {d : D} : Rep W.K W.mg W.pa G v d → SlR G H (some v) (some (.v d)) []
  | lis {a : Addr} {vs : List V} {xs : List D} : H a = some (.lst vs) → Reps W.K W.mg W.pa G vs xs → SlR G H (some (.ref a)) (some (.own xs)) [a]
  | lis2 {a : Addr} {bs : List Addr} {rows : List (List D)} : H a = some (.lst (bs.map V.ref)) → RowsR W G H bs rows → SlR G H (some (.ref a)) (some (.own2 rows)) (a :: bs)
  | ins {c : Str} {C dx : Addr} {fs : List (Str × V)} {gs : List (Str × D)} : W.mg c = some (.ref C) → H W.sf = some (.ins C dx fs) → fs.map (·.1) = gs.map (·.1) → Reps W.K W.mg W.pa G (fs.map (·.2)) (gs.map (·.2)) → SlR G H (some (.ref W.sf)) (some (.ins c gs)) [W.sf]
  | dk {a : Addr} {fs : List (Key × V)} {gs : List (Key × D)} : H a = some (.dK fs) → fs.map (·.1) = gs.map (·.1) → Reps W.K W.mg W.pa G (fs.map (·.2)) (gs.map (·.2)) → SlR G H (some (.ref a)) (some (.dk gs)) [a]
  | dt {a : Addr} {fs : List (List Key × V)} {gs : List (List Key × D)} : H a = some (.dT fs) → fs.map (·.1) = gs.map (·.1) → Reps W.K W.mg W.pa G (fs.map (·.2)) (gs.map (·.2)) → SlR G H (some (.ref a)) (some (.dt gs)) [a]
inductive SlRs (G H : Hp) : L2.St → Ev → List (List Addr) → Prop
  | nil : SlRs G H [] [] []
  | cons {s : Option V} {sl : Option Sl} {fp : List Addr} {σ : L2.St} {e : Ev} {fps : List (List Addr)} : SlR W G H s sl fp → SlRs G H σ e fps → SlRs G H (s :: σ) (sl :: e) (fp :: fps)

structure Base (G : Hp) (p : Pen) (H : Hp) : Prop where
  sub : Sub G H
  g0 : Sub W.G0 G
  new : ∀ a, G a ≠ none → W.G0 a ≠ none ∨ W.B a = none
  kept : ∀ a o, W.B a = some o → a ≠ W.pa → (∀ ps, o ≠ .tbl ps) → H a = some o
  gt : ∀ a ps, G a ≠ some (.tbl ps)
  nt : ∀ a ps, W.B a ≠ some (.tbl ps)
  tab : LamX.Tabs tabsT H
  pen : PenAt W.pa p G H

structure R (G : Hp) (e : Ev) (p : Pen) (σ : L2.St) (H : Hp) : Prop where
  base : Base W G p H
  sls : ∃ fps, SlRs W G H σ e fps ∧ fps.flatten.Nodup ∧ ∀ a ∈ fps.flatten, G a = none ∧ W.B a = none ∧ a ≠ W.pa
end

section
variable {W : Wd} {G G' H H' : Hp} {e : Ev} {p : Pen} {σ : L2.St}
theorem Base.pne (b : Base W G p H) : H W.pa ≠ none := by
  obtain ⟨_, ca, _, h⟩ := b.pen
  rw [h]
  exact fun z => nomatch z
theorem Base.free (b : Base W G p H) {a : Addr} (h : H a = none) : W.B a = none ∧ G a = none ∧ a ≠ W.pa := by
  have ne : a ≠ W.pa := fun z => b.pne (z ▸ h)
  refine ⟨?_, ?_, ne⟩
  · cases q : W.B a with
    | none => rfl
    | some o =>
      rw [b.kept a o q ne fun ps z => b.nt a ps (by rw [q, z])] at h
      cases h
  · cases q : G a with
    | none => rfl
    | some o =>
      rw [b.sub a o q] at h
      cases h
theorem gt_upd {G : Hp} {a : Addr} {o : HO} (g : ∀ a ps, G a ≠ some (.tbl ps)) (ho : ∀ ps, o ≠ .tbl ps) : ∀ b ps, upd G a o b ≠ some (.tbl ps) := fun b ps z => by
  by_cases q : b = a
  · rw [q, upd_same] at z
    exact ho ps (Option.some.inj z)
  · rw [upd_ne q] at z
    exact g b ps z
theorem Base.alloc (b : Base W G p H) {a : Addr} {o : HO} (h : H a = none) (ho : ∀ ps, o ≠ .tbl ps := by (intro _ z; cases z)) : Base W (upd G a o) p (upd H a o) := by
  obtain ⟨f1, f2, f3⟩ := b.free h
  refine ⟨b.sub.upd2 a o, b.g0.trans (Sub.new f2), fun c hc => ?_, fun c u hc hp ht => ?_, gt_upd b.gt ho, b.nt, b.tab.ext (Sub.new h), ?_⟩
  · by_cases q : c = a
    · exact .inr (q ▸ f1)
    · rw [upd_ne q] at hc
      exact b.new c hc
  · rw [upd_ne (fun z => by rw [z, f1] at hc; cases hc)]
    exact b.kept c u hc hp ht
  · obtain ⟨p1, ca, p2, p3⟩ := b.pen
    refine ⟨by rw [upd_ne f3.symm]; exact p1, ca, ?_, by rw [upd_ne f3.symm]; exact p3⟩
    rw [upd_ne (ne_of_none p2 f2)]
    exact p2
theorem Base.write (b : Base W G p H) {a : Addr} {o : HO} (h1 : G a = none) (h2 : W.B a = none) (h3 : a ≠ W.pa) (hs : Soft (H a)) : Base W G p (upd H a o) := by
  refine ⟨b.sub.mut h1, b.g0, b.new, fun c u hc hp ht => ?_, b.gt, b.nt, tabs_but b.tab hs fun b hb => upd_ne hb, ?_⟩
  · rw [upd_ne (fun z => by rw [z, h2] at hc; cases hc)]
    exact b.kept c u hc hp ht
  · obtain ⟨p1, ca, p2, p3⟩ := b.pen
    exact ⟨p1, ca, p2, by rw [upd_ne (Ne.symm h3)]; exact p3⟩
theorem Base.still (b : Base W G p H) {a : Addr} {o : HO} (h : H a = some o) (h1 : G a = none) (h2 : W.B a = none) (h3 : a ≠ W.pa) (ho : ∀ ps, o ≠ .tbl ps := by (intro _ z; cases z)) : Base W (upd G a o) p H := by
  refine ⟨fun c u hc => ?_, b.g0.trans (Sub.new h1), fun c hc => ?_, b.kept, gt_upd b.gt ho, b.nt, b.tab, ?_⟩
  · by_cases q : c = a
    · subst q
      rw [upd_same] at hc
      cases hc
      exact h
    · rw [upd_ne q] at hc
      exact b.sub c u hc
  · by_cases q : c = a
    · exact .inr (q ▸ h2)
    · rw [upd_ne q] at hc
      exact b.new c hc
  · obtain ⟨p1, ca, p2, p3⟩ := b.pen
    exact ⟨by rw [upd_ne (Ne.symm h3)]; exact p1, ca, by rw [upd_ne (ne_of_none p2 h1)]; exact p2, p3⟩

theorem RowsR.mono {bs : List Addr} {rows : List (List D)} (h : RowsR W G H bs rows) (g : Sub G G') (k : ∀ a ∈ bs, ∀ o, H a = some o → H' a = some o) : RowsR W G' H' bs rows := by
  induction h with
  | nil => exact .nil
  | cons h1 h2 _ ih => exact .cons (k _ (by simp) _ h1) (h2.mono g) (ih fun a ha => k a (by simp [ha]))
theorem RowsR.isL {bs : List Addr} {rows : List (List D)} (h : RowsR W G H bs rows) : ∀ a ∈ bs, ∃ vs, H a = some (.lst vs) := by
  induction h with
  | nil => intro a ha; cases ha
  | cons h1 _ _ ih =>
    intro a ha
    rcases List.mem_cons.mp ha with rfl | ha
    · exact ⟨_, h1⟩
    · exact ih a ha
theorem SlR.mono {s : Option V} {sl : Option Sl} {fp : List Addr} (h : SlR W G H s sl fp) (g : Sub G G') (k : ∀ a ∈ fp, ∀ o, H a = some o → H' a = some o) : SlR W G' H' s sl fp := by
  cases h with
  | emp => exact .emp
  | val r => exact .val (r.mono g)
  | lis a r => exact .lis (k _ (by simp) _ a) (r.mono g)
  | lis2 a r => exact .lis2 (k _ (by simp) _ a) (r.mono g fun b hb => k b (by simp [hb]))
  | ins m a e r => exact .ins m (k _ (by simp) _ a) e (r.mono g)
  | dk a e r => exact .dk (k _ (by simp) _ a) e (r.mono g)
  | dt a e r => exact .dt (k _ (by simp) _ a) e (r.mono g)
theorem SlRs.mono (g : Sub G G') : ∀ {σ : L2.St} {e : Ev} {fps : List (List Addr)}, SlRs W G H σ e fps → (∀ a ∈ fps.flatten, ∀ o, H a = some o → H' a = some o) → SlRs W G' H' σ e fps
  | _, _, _, .nil, _ => .nil
  | _, _, _, .cons h r, k => .cons (h.mono g fun a ha => k a (by simp [ha])) (SlRs.mono g r fun a ha => k a (by
      rw [List.flatten_cons]
      exact List.mem_append_right _ ha))
theorem SlRs.length : ∀ {σ : L2.St} {e : Ev} {fps : List (List Addr)}, SlRs W G H σ e fps → σ.length = e.length
  | _, _, _, .nil => rfl
  | _, _, _, .cons _ r => congrArg (· + 1) (SlRs.length r)
theorem SlRs.get : ∀ {σ : L2.St} {e : Ev} {fps : List (List Addr)} {i : Nat} {sl : Option Sl}, SlRs W G H σ e fps → e[i]? = some sl → ∃ s fp, σ[i]? = some s ∧ fps[i]? = some fp ∧ SlR W G H s sl fp
  | _, _, _, _, _, .nil, h => by simp at h
  | _, _, _, 0, _, .cons q _, h => by simp at h; subst h; exact ⟨_, _, rfl, rfl, q⟩
  | _, _, _, i + 1, _, .cons _ r, h => by
    obtain ⟨s, fp, h1, h2, h3⟩ := SlRs.get (i := i) r (by simpa using h)
    exact ⟨s, fp, by simpa using h1, by simpa using h2, h3⟩
theorem SlRs.set : ∀ {σ : L2.St} {e : Ev} {fps : List (List Addr)} {s : Option V} {sl : Option Sl} {fp : List Addr} (i : Nat), SlRs W G H σ e fps → SlR W G H s sl fp → SlRs W G H (σ.set i s) (e.set i sl) (fps.set i fp)
  | _, _, _, _, _, _, _, .nil, _ => .nil
  | _, _, _, _, _, _, 0, .cons _ r, q => .cons q r
  | _, _, _, _, _, _, i + 1, .cons h r, q => .cons h (SlRs.set i r q)
theorem SlRs.turn : ∀ {σ : L2.St} {e : Ev} {fps : List (List Addr)} {s : Option V} {sl : Option Sl} {fp : List Addr} (i : Nat), SlRs W G H σ e fps → σ[i]? = some s → SlR W G H s sl fp → SlRs W G H σ (e.set i sl) (fps.set i fp)
  | _, _, _, _, _, _, _, .nil, _, _ => .nil
  | _, _, _, _, _, _, 0, .cons _ r, h, q => by simp at h; subst h; exact .cons q r
  | _, _, _, _, _, _, i + 1, .cons h r, hs, q => .cons h (SlRs.turn i r (by simpa using hs) q)
end
theorem flatten_set_nil {fps : List (List Addr)} {i : Nat} : (fps.set i []).flatten.Sublist fps.flatten := by
  induction fps generalizing i with
  | nil => simp
  | cons f r ih =>
    cases i with
    | zero => simp [List.set]
    | succ i => simpa [List.set] using ih.append_left f
theorem mem_set_flatten {fps : List (List Addr)} {i : Nat} {fp : List Addr} {a : Addr} (h : a ∈ (fps.set i fp).flatten) : a ∈ fp ∨ a ∈ fps.flatten := by
  induction fps generalizing i with
  | nil => simp at h
  | cons f r ih =>
    cases i with
    | zero =>
      simp only [List.set, List.flatten_cons, List.mem_append] at h ⊢
      rcases h with h | h
      · exact .inl h
      · exact .inr (.inr h)
    | succ i =>
      simp only [List.set, List.flatten_cons, List.mem_append] at h ⊢
      rcases h with h | h
      · exact .inr (.inl h)
      · rcases ih h with q | q
        · exact .inl q
        · exact .inr (.inr q)
theorem nodup_set_flatten {fps : List (List Addr)} {i : Nat} {fp : List Addr} (h : fps.flatten.Nodup) (hf : fp.Nodup) (ha : ∀ a ∈ fp, a ∉ fps.flatten) : (fps.set i fp).flatten.Nodup := by
  induction fps generalizing i with
  | nil => simpa using h
  | cons f r ih =>
    rw [List.flatten_cons, List.nodup_append] at h
    obtain ⟨h1, h2, h3⟩ := h
    have ha1 : ∀ a ∈ fp, a ∉ f := fun a m z => ha a m (by rw [List.flatten_cons]; exact List.mem_append_left _ z)
    have ha2 : ∀ a ∈ fp, a ∉ r.flatten := fun a m z => ha a m (by rw [List.flatten_cons]; exact List.mem_append_right _ z)
    cases i with
    | zero =>
      simp only [List.set, List.flatten_cons, List.nodup_append]
      exact ⟨hf, h2, fun a m b m' z => ha2 a m (z ▸ m')⟩
    | succ i =>
      simp only [List.set, List.flatten_cons, List.nodup_append]
      refine ⟨h1, ih h2 ha2, fun a m b m' z => ?_⟩
      rcases mem_set_flatten m' with q | q
      · exact ha1 b q (z ▸ m)
      · exact h3 a m b q z

section
variable {W : Wd} {G G' H H' : Hp} {e : Ev} {p : Pen} {σ : L2.St}
theorem R.sub (r : R W G e p σ H) : Sub G H := r.base.sub
theorem R.len (r : R W G e p σ H) : σ.length = e.length := let ⟨_, h, _⟩ := r.sls; h.length
theorem SlR.there {s : Option V} {sl : Option Sl} {fp : List Addr} (q : SlR W G H s sl fp) : ∀ c ∈ fp, H c ≠ none := by
  intro c hc
  cases q with
  | emp => simp at hc
  | val _ => simp at hc
  | lis ha _ =>
    obtain rfl := List.mem_singleton.mp hc
    rw [ha]
    exact fun z => nomatch z
  | lis2 ha hr =>
    rcases List.mem_cons.mp hc with rfl | hc
    · rw [ha]
      exact fun z => nomatch z
    · obtain ⟨vs, q⟩ := hr.isL c hc
      rw [q]
      exact fun z => nomatch z
  | ins _ ha _ _ | dk ha _ _ | dt ha _ _ =>
    obtain rfl := List.mem_singleton.mp hc
    rw [ha]
    exact fun z => nomatch z
theorem SlRs.there {fps : List (List Addr)} (hh : SlRs W G H σ e fps) : ∀ c ∈ fps.flatten, H c ≠ none := by
  induction hh with
  | nil => intro c hc; simp at hc
  | cons q _ ih =>
    intro c hc
    rw [List.flatten_cons, List.mem_append] at hc
    exact hc.elim (q.there c) (ih c)
theorem R.alloc (r : R W G e p σ H) {a : Addr} {o : HO} (h : H a = none) (ho : ∀ ps, o ≠ .tbl ps := by (intro _ z; cases z)) : R W (upd G a o) e p σ (upd H a o) := by
  obtain ⟨fps, h1, h2, h3⟩ := r.sls
  obtain ⟨f1, f2, f3⟩ := r.base.free h
  refine ⟨r.base.alloc h ho, fps, h1.mono (Sub.new f2) (fun b _ u hu => by rw [upd_ne (ne_of_none hu h)]; exact hu), h2, fun b hb => ?_⟩
  obtain ⟨q1, q2, q3⟩ := h3 b hb
  refine ⟨?_, q2, q3⟩
  rw [upd_ne (fun z => h1.there b hb (by rw [z]; exact h))]
  exact q1
theorem R.store (r : R W G e p σ H) {v : V} {d : D} (i : Nat) (h : Rep W.K W.mg W.pa G v d) : R W G (e.set i (some (.v d))) p (σ.set i (some v)) H := by
  obtain ⟨fps, h1, h2, h3⟩ := r.sls
  refine ⟨r.base, fps.set i [], h1.set i (.val h), h2.sublist flatten_set_nil, fun b hb => ?_⟩
  rcases mem_set_flatten hb with q | q
  · simp at q
  · exact h3 b q
theorem R.forget (r : R W G e p σ H) (s : Option V) (i : Nat) : R W G (e.set i none) p (σ.set i s) H := by
  obtain ⟨fps, h1, h2, h3⟩ := r.sls
  refine ⟨r.base, fps.set i [], h1.set i .emp, h2.sublist flatten_set_nil, fun b hb => ?_⟩
  rcases mem_set_flatten hb with q | q
  · simp at q
  · exact h3 b q
theorem R.storeOwn (r : R W G e p σ H) {a : Addr} {vs : List V} {xs : List D} (i : Nat) (h : H a = none) (hr : Reps W.K W.mg W.pa G vs xs) :
    R W G (e.set i (some (.own xs))) p (σ.set i (some (.ref a))) (upd H a (.lst vs)) := by
  obtain ⟨fps, h1, h2, h3⟩ := r.sls
  obtain ⟨f1, f2, f3⟩ := r.base.free h
  have nin : a ∉ fps.flatten := fun z => h1.there a z h
  have h1' : SlRs W G (upd H a (.lst vs)) σ e fps := h1.mono (Sub.refl G) fun b hb u hu => by
    rw [upd_ne (fun z => nin (by rw [← z]; exact hb))]
    exact hu
  refine ⟨r.base.write f2 f1 f3 (by rw [h]; exact Soft.none), fps.set i [a], h1'.set i (.lis upd_same hr), nodup_set_flatten h2 (by simp) (fun b hb => ?_), fun b hb => ?_⟩
  · have : b = a := by simpa using hb
    rw [this]
    exact nin
  · rcases mem_set_flatten hb with q | q
    · have : b = a := by simpa using q
      rw [this]
      exact ⟨f2, f1, f3⟩
    · exact h3 b q
theorem SlRs.rewrite {a : Addr} {vs : List V} {xs : List D} {fps : List (List Addr)} (hr : Reps W.K W.mg W.pa G vs xs) : ∀ {σ : L2.St} {e : Ev} {fps : List (List Addr)} (i : Nat), SlRs W G H σ e fps → fps.flatten.Nodup → σ[i]? = some (some (.ref a)) → fps[i]? = some [a] →
    SlRs W G (upd H a (.lst vs)) σ (e.set i (some (.own xs))) fps
  | _, _, _, _, .nil, _, h, _ => by simp at h
  | _, _, _, 0, .cons q r, nd, h1, h2 => by
    simp at h1 h2
    subst h1
    subst h2
    rw [List.flatten_cons, List.nodup_append] at nd
    refine .cons (.lis upd_same hr) (r.mono (Sub.refl G) fun b hb u hu => ?_)
    rw [upd_ne (fun z => nd.2.2 a (by simp) b hb z.symm)]
    exact hu
  | _, _, _, i + 1, .cons q r, nd, h1, h2 => by
    rw [List.flatten_cons, List.nodup_append] at nd
    have h2' := h2
    simp at h2
    have hm : a ∈ _ := List.mem_flatten.mpr ⟨[a], List.mem_of_getElem? h2, by simp⟩
    refine .cons (q.mono (Sub.refl G) fun b hb u hu => ?_) (SlRs.rewrite (fps := []) hr i r nd.2.1 (by simpa using h1) h2)
    rw [upd_ne (fun z => nd.2.2 b hb a hm z)]
    exact hu
theorem R.getOwn (r : R W G e p σ H) {i : Nat} {xs : List D} (h : e[i]? = some (some (.own xs))) :
    ∃ a vs, σ[i]? = some (some (.ref a)) ∧ H a = some (.lst vs) ∧ Reps W.K W.mg W.pa G vs xs ∧ G a = none ∧ W.B a = none ∧ a ≠ W.pa ∧
      (∀ us ys, Reps W.K W.mg W.pa G us ys → R W G (e.set i (some (.own ys))) p σ (upd H a (.lst us))) ∧
      R W (upd G a (.lst vs)) (e.set i (some (.v (.lst xs)))) p σ H := by
  obtain ⟨fps, h1, h2, h3⟩ := r.sls
  obtain ⟨s, fp, q1, q2, q3⟩ := h1.get h
  cases q3 with
  | lis ha hr =>
    rename_i a vs
    have hm : a ∈ fps.flatten := List.mem_flatten.mpr ⟨[a], List.mem_of_getElem? q2, by simp⟩
    obtain ⟨g1, g2, g3⟩ := h3 a hm
    refine ⟨a, vs, q1, ha, hr, g1, g2, g3, fun us ys hu => ⟨r.base.write g1 g2 g3 (by rw [ha]; exact soft_lst _), fps, SlRs.rewrite (fps := []) hu i h1 h2 q1 q2, h2, h3⟩, ?_⟩
    refine ⟨r.base.still ha g1 g2 g3, fps.set i [], ?_, h2.sublist flatten_set_nil, fun b hb => ?_⟩
    · refine SlRs.turn i (h1.mono (Sub.new g1) fun _ _ _ q => q) q1 (.val (.lst upd_same (hr.mono (Sub.new g1))))
    · rcases mem_set_flatten hb with q | q
      · simp at q
      · obtain ⟨k1, k2, k3⟩ := h3 b q
        refine ⟨?_, k2, k3⟩
        by_cases z : b = a
        · subst z
          exfalso
          -- b stands once, at place i
          have cnt : ∀ {l : List (List Addr)} {i : Nat}, l.flatten.Nodup → l[i]? = some [b] → b ∉ (l.set i []).flatten := by
            intro l
            induction l with
            | nil => intro i _ hh; simp at hh
            | cons f t ih =>
              intro i nd hh
              rw [List.flatten_cons, List.nodup_append] at nd
              cases i with
              | zero =>
                simp at hh
                subst hh
                simp only [List.set, List.flatten_cons, List.nil_append]
                exact fun z => nd.2.2 b (by simp) b z rfl
              | succ i =>
                simp at hh
                simp only [List.set, List.flatten_cons, List.mem_append]
                rintro (z | z)
                · exact nd.2.2 b z b (List.mem_flatten.mpr ⟨[b], List.mem_of_getElem? hh, by simp⟩) rfl
                · exact ih nd.2.1 hh z
          exact cnt h2 q2 hb
        · rw [upd_ne z]
          exact k1
theorem R.getV (r : R W G e p σ H) {i : Nat} {d : D} (h : e[i]? = some (some (.v d))) : ∃ v, σ[i]? = some (some v) ∧ Rep W.K W.mg W.pa G v d := by
  obtain ⟨fps, h1, _⟩ := r.sls
  obtain ⟨s, fp, q1, _, q3⟩ := h1.get h
  cases q3 with
  | val hr => exact ⟨_, q1, hr⟩
end
end Pd

namespace Pd
open PySem PySem.Spec L2

structure Wl where
  pa : Addr
  B : Hp
  G0 : Hp
  sf : Addr
abbrev wd (X : Cx) (w : Wl) : Wd := ⟨X.K, X.mg, w.pa, w.B, w.G0, w.sf⟩

abbrev RepW (W : Wd) : Hp → V → D → Prop := Rep W.K W.mg W.pa
abbrev RepsW (W : Wd) : Hp → List V → List D → Prop := Reps W.K W.mg W.pa
def XRep (W : Wd) (G : Hp) (cls : Value) (dd : Option Addr) (x : Xn) : Prop :=
  ∃ C, W.mg x.c = some (.ref C) ∧ cls = .ref C ∧ ((x.fs = [] ∧ dd = none) ∨ ∃ d fs, dd = some d ∧ G d = some (.xd fs) ∧ fs.map (·.1) = x.fs.map (·.1) ∧ RepsW W G (fs.map (·.2)) (x.fs.map (·.2)))

def RepQ (W : Wd) (G H : Hp) (v : V) (d : D) : Prop := RepW W G v d ∨ ∃ a vs ds, v = .ref a ∧ d = .lst ds ∧ H a = some (.lst vs) ∧ RepsW W G vs ds

def Post {α β : Type} (RP : Hp → Hp → β → α → Prop) (W : Wd) (WW : WX) (σ : L2.St) (Q : β → Hp → Prop) (G : Hp) : Res α → Prop
  | .ok d e p => ∀ G' v H', Sub G G' → R W G' e p σ H' → RP G' H' v d → Q v H'
  | .exc x e p => ∀ G' cls dd H', Sub G G' → R W G' e p σ H' → XRep W G' cls dd x → WW cls dd σ H'
  | .bad => False
abbrev rpE (W : Wd) : Hp → Hp → V → D → Prop := fun G _ v d => RepW W G v d
abbrev rpQ (W : Wd) : Hp → Hp → V → D → Prop := RepQ W
abbrev rpA (W : Wd) : Hp → Hp → List V → List D → Prop := fun G _ v d => RepsW W G v d
abbrev rpT : Hp → Hp → Bool → Bool → Prop := fun _ _ b c => b = c
def PostF (W : Wd) (WW : WX) (σ : L2.St) (Q : VK) (G : Hp) : Res (List D) → Prop
  | .ok xs e p => ∀ G' a vs H', Sub G G' → R W G' e p σ H' → H' a = none → RepsW W G' vs xs → Q (.ref a) (upd H' a (.lst vs))
  | .exc x e p => ∀ G' cls dd H', Sub G G' → R W G' e p σ H' → XRep W G' cls dd x → WW cls dd σ H'
  | .bad => False
section
variable {α β γ δ : Type} {RP : Hp → Hp → β → α → Prop} {RP' : Hp → Hp → δ → γ → Prop} {W : Wd} {WW : WX} {σ : L2.St} {Q : β → Hp → Prop} {Q' : δ → Hp → Prop} {G G' : Hp}
theorem Post.mono {r : Res α} (h : Post RP W WW σ Q G r) (s : Sub G G') : Post RP W WW σ Q G' r := by
  cases r with
  | ok d e p => exact fun G1 v H1 s1 => h G1 v H1 (s.trans s1)
  | exc x e p => exact fun G1 c d H1 s1 => h G1 c d H1 (s.trans s1)
  | bad => exact h
theorem PostF.mono {r : Res (List D)} {Q : VK} (h : PostF W WW σ Q G r) (s : Sub G G') : PostF W WW σ Q G' r := by
  cases r with
  | ok d e p => exact fun G1 v vs H1 s1 => h G1 v vs H1 (s.trans s1)
  | exc x e p => exact fun G1 c d H1 s1 => h G1 c d H1 (s.trans s1)
  | bad => exact h
theorem Post.bind {r : Res α} {k : α → Ev → Pen → Res γ} (h : Post RP' W WW σ Q' G (r.bind k)) :
    Post RP W WW σ (fun v H1 => ∃ G1 d e1 p1, Sub G G1 ∧ R W G1 e1 p1 σ H1 ∧ RP G1 H1 v d ∧ Post RP' W WW σ Q' G1 (k d e1 p1)) G r := by
  cases r with
  | ok d e p => exact fun G1 v H1 s1 R1 q1 => ⟨G1, d, e, p, s1, R1, q1, Post.mono h s1⟩
  | exc x e p => exact h
  | bad => exact h
theorem Post.bindF {r : Res α} {k : α → Ev → Pen → Res (List D)} {Q' : VK} (h : PostF W WW σ Q' G (r.bind k)) :
    Post RP W WW σ (fun v H1 => ∃ G1 d e1 p1, Sub G G1 ∧ R W G1 e1 p1 σ H1 ∧ RP G1 H1 v d ∧ PostF W WW σ Q' G1 (k d e1 p1)) G r := by
  cases r with
  | ok d e p => exact fun G1 v H1 s1 R1 q1 => ⟨G1, d, e, p, s1, R1, q1, PostF.mono h s1⟩
  | exc x e p => exact h
  | bad => exact h
end

def tE (X : Cx) (WW : WX) (f : EM) : TE := fun σ H Q => ∃ w G e p, R (wd X w) G e p σ H ∧ Post (rpE (wd X w)) (wd X w) WW σ Q G (f e p)
def tQ (X : Cx) (WW : WX) (f : EM) : TE := fun σ H Q => ∃ w G e p, R (wd X w) G e p σ H ∧ Post (rpQ (wd X w)) (wd X w) WW σ Q G (f e p)
def tT (X : Cx) (WW : WX) (f : TM) : TT := fun σ H Q => ∃ w G e p, R (wd X w) G e p σ H ∧ Post rpT (wd X w) WW σ Q G (f e p)
def tA (X : Cx) (WW : WX) (f : AM) : TA := fun σ H Q => ∃ w G e p, R (wd X w) G e p σ H ∧ Post (rpA (wd X w)) (wd X w) WW σ Q G (f e p)
def tF (X : Cx) (WW : WX) (f : AM) : TE := fun σ H Q => ∃ w G e p, R (wd X w) G e p σ H ∧ PostF (wd X w) WW σ Q G (f e p)
def PostS (W : Wd) (WW : WX) (D : Ends) (G : Hp) : SR → Prop
  | .nx e p => ∀ G' σ H, Sub G G' → R W G' e p σ H → D.nx σ H
  | .rt d e p => ∀ G' v H, Sub G G' → Base W G' p H → RepW W G' v d → D.rt v H
  | .bk e p => ∀ G' σ H, Sub G G' → R W G' e p σ H → D.bk σ H
  | .ct e p => ∀ G' σ H, Sub G G' → R W G' e p σ H → D.ct σ H
  | .exc x e p => ∀ G' cls dd σ H, Sub G G' → R W G' e p σ H → XRep W G' cls dd x → WW cls dd σ H
  | .bad => False
theorem PostS.mono {W : Wd} {WW : WX} {D : Ends} {G G' : Hp} {r : SR} (h : PostS W WW D G r) (s : Sub G G') : PostS W WW D G' r := by
  cases r with
  | nx e p => exact fun G1 σ H s1 => h G1 σ H (s.trans s1)
  | rt d e p => exact fun G1 v H s1 => h G1 v H (s.trans s1)
  | bk e p => exact fun G1 σ H s1 => h G1 σ H (s.trans s1)
  | ct e p => exact fun G1 σ H s1 => h G1 σ H (s.trans s1)
  | exc x e p => exact fun G1 c d σ H s1 => h G1 c d σ H (s.trans s1)
  | bad => exact h
def tS (X : Cx) (WW : WX) (f : SM) : TS := fun D σ H => ∃ w G e p, R (wd X w) G e p σ H ∧ PostS (wd X w) WW D G (f e p)

abbrev DE (X : Cx) (WW : WX) (e : Expr) (f : EM) : Prop := PE X e (tE X WW f)
abbrev DQ (X : Cx) (WW : WX) (e : Expr) (f : EM) : Prop := PE X e (tQ X WW f)
abbrev DF (X : Cx) (WW : WX) (e : Expr) (f : AM) : Prop := PE X e (tF X WW f)
abbrev DT (X : Cx) (WW : WX) (e : Expr) (f : TM) : Prop := PT X e (tT X WW f)
abbrev DA (X : Cx) (WW : WX) (es : List Expr) (f : AM) : Prop := PA X es (tA X WW f)
abbrev DS (X : Cx) (WW : WX) (s : Stmt) (f : SM) : Prop := PS X s (tS X WW f)
abbrev DSs (X : Cx) (WW : WX) (ss : List Stmt) (f : SM) : Prop := PSs X ss (tS X WW f)

theorem PEw {X : Cx} {e : Expr} {t t' : TE} (h : PE X e t) (k : ∀ σ H Q, t' σ H Q → t σ H Q) : PE X e t' := ⟨fun pins s σ H Q I q => h.run pins s σ H Q I (k _ _ _ q)⟩
theorem PTw {X : Cx} {e : Expr} {t t' : TT} (h : PT X e t) (k : ∀ σ H Q, t' σ H Q → t σ H Q) : PT X e t' := ⟨fun pins s σ H Q I q => h.run pins s σ H Q I (k _ _ _ q)⟩
theorem PWw {X : Cx} {e : Expr} {t t' : TT} (h : PW X e t) (k : ∀ σ H Q, t' σ H Q → t σ H Q) : PW X e t' := ⟨fun wh pins s σ H Q I q => h.run wh pins s σ H Q I (k _ _ _ q)⟩
theorem PAw {X : Cx} {e : List Expr} {t t' : TA} (h : PA X e t) (k : ∀ σ H Q, t' σ H Q → t σ H Q) : PA X e t' := ⟨fun pos pins s σ H Q I q => h.run pos pins s σ H Q I (k _ _ _ q)⟩
theorem PSw {X : Cx} {e : Stmt} {t t' : TS} (h : PS X e t) (k : ∀ D σ H, t' D σ H → t D σ H) : PS X e t' := ⟨fun pins s σ H Q I q => h.run pins s σ H Q I (k _ _ _ q)⟩
theorem PSsw {X : Cx} {e : List Stmt} {t t' : TS} (h : PSs X e t) (k : ∀ D σ H, t' D σ H → t D σ H) : PSs X e t' := ⟨fun pins s σ H Q I q => h.run pins s σ H Q I (k _ _ _ q)⟩

section
variable {X : Cx} {WW : WX}
theorem DE.q {e : Expr} {f : EM} (h : DE X WW e f) : DQ X WW e f := PEw h fun σ H Q ⟨w, G, e, p, r, q⟩ => ⟨w, G, e, p, r, by
  cases hf : f e p with
  | ok d e1 p1 => rw [hf] at q; exact fun G1 v H1 s R1 q1 => q G1 v H1 s R1 (.inl q1)
  | exc x e1 p1 => rw [hf] at q; exact q
  | bad => rw [hf] at q; exact q⟩
def eF (f : AM) : EM := fun e p => (f e p).bind fun xs e p => .ok (.lst xs) e p
theorem DF.e {e : Expr} {f : AM} (h : DF X WW e f) : DE X WW e (eF f) := PEw h fun σ H Q ⟨w, G, e, p, r, q⟩ => ⟨w, G, e, p, r, by
  cases hf : f e p with
  | ok d e1 p1 =>
    unfold eF at q
    rw [hf] at q
    intro G1 a vs H1 s R1 hn hr
    obtain ⟨f1, f2, f3⟩ := R1.base.free hn
    exact q (upd G1 a (.lst vs)) (.ref a) _ (s.trans (Sub.new f2)) (R1.alloc hn) (.lst upd_same (hr.mono (Sub.new f2)))
  | exc x e1 p1 => unfold eF at q; rw [hf] at q; exact q
  | bad => unfold eF at q; rw [hf] at q; exact q⟩

def eVar (i : Nat) : EM := fun e p => match e[i]? with
  | some (some (.v d)) => .ok d e p
  | some (some (.own xs)) => .ok (.lst xs) (e.set i (some (.v (.lst xs)))) p
  | _ => .bad
def eLook (i : Nat) : EM := fun e p => match e[i]? with
  | some (some (.v d)) => .ok d e p
  | some (some (.own xs)) => .ok (.lst xs) e p
  | _ => .bad
def eC (d : D) : EM := fun e p => .ok d e p
theorem de_var {x : Str} {pos : Pos} (i : Nat) (hN : X.N[i]? = some x := by rfl) (hv : Vis X.env.scope x := by first | exact Or.inl rfl | exact Or.inr (Or.inl rfl) | exact Or.inr (Or.inr rfl)) (hd : (x == ("__debug__" : Str)) = false := by decide)
    (hcd : (x == ("__classdict__" : Str)) = false := by decide) : DE X WW (.Name x pos) (eVar i) := PEw (pe_var hN hv hd hcd) fun σ H Q ⟨w, G, e, p, r, q⟩ => by
  unfold eVar at q
  split at q
  · rename_i d hd
    obtain ⟨v, hv, hr⟩ := r.getV hd
    exact ⟨v, hv, q G v H (Sub.refl G) r hr⟩
  · rename_i xs hx
    obtain ⟨a, vs, h1, h2, h3, g1, g2, g3, _, h5⟩ := r.getOwn hx
    exact ⟨.ref a, h1, q _ _ H (Sub.new g1) h5 (.lst upd_same (h3.mono (Sub.new g1)))⟩
  · exact q.elim
theorem dq_var {x : Str} {pos : Pos} (i : Nat) (hN : X.N[i]? = some x := by rfl) (hv : Vis X.env.scope x := by first | exact Or.inl rfl | exact Or.inr (Or.inl rfl) | exact Or.inr (Or.inr rfl)) (hd : (x == ("__debug__" : Str)) = false := by decide)
    (hcd : (x == ("__classdict__" : Str)) = false := by decide) : DQ X WW (.Name x pos) (eLook i) := PEw (pe_var hN hv hd hcd) fun σ H Q ⟨w, G, e, p, r, q⟩ => by
  unfold eLook at q
  split at q
  · rename_i d hd
    obtain ⟨v, hv, hr⟩ := r.getV hd
    exact ⟨v, hv, q G v H (Sub.refl G) r (.inl hr)⟩
  · rename_i xs hx
    obtain ⟨a, vs, h1, h2, h3, g1, g2, g3, _, h5⟩ := r.getOwn hx
    exact ⟨.ref a, h1, q _ _ H (Sub.refl G) r (.inr ⟨a, vs, xs, rfl, rfl, h2, h3⟩)⟩
  · exact q.elim
theorem de_c {ex : Expr} {v : V} {d : D} (h : PE X ex (tC v)) (hr : ∀ K mg pa G, Rep K mg pa G v d) : DE X WW ex (eC d) := PEw h fun σ H Q ⟨w, G, e, p, r, q⟩ => q G v H (Sub.refl G) r (hr _ _ _ _)
theorem de_int {i j pos} : DE X WW (.Constant (.int i) j pos) (eC (.int i)) := de_c pe_int fun _ _ _ _ => .int i
theorem de_bl {b j pos} : DE X WW (.Constant (.bool b) j pos) (eC (.bl b)) := de_c pe_bl fun _ _ _ _ => .bl b
theorem de_non {j pos} : DE X WW (.Constant .none j pos) (eC .non) := de_c pe_non fun _ _ _ _ => .non
theorem de_str {x j pos} : DE X WW (.Constant (.str x) j pos) (eC (.str x)) := de_c pe_str fun _ _ _ _ => .str x
theorem de_gint {x : Str} {i : Int} {t : Tok} {pos : Pos} (hg : Gl X x) (hm : X.mg x = some (.int i t)) (hd : (x == ("__debug__" : Str)) = false := by decide) : DE X WW (.Name x pos) (eC (.int i)) := de_c (v := .int i) (pe_glob hg hm ⟨t, rfl⟩ hd) fun _ _ _ _ => .int i
theorem de_gstr {x z : Str} {t : Tok} {pos : Pos} (hg : Gl X x) (hm : X.mg x = some (.str z t)) (hd : (x == ("__debug__" : Str)) = false := by decide) : DE X WW (.Name x pos) (eC (.str z)) := de_c (v := .str z) (pe_glob hg hm ⟨t, rfl⟩ hd) fun _ _ _ _ => .str z

inductive Alloc : Hp → Hp → Hp → Hp → Prop
  | refl (G H : Hp) : Alloc G H G H
  | step {G H G' H' : Hp} {a : Addr} {o : HO} (l : Alloc G H G' H') (h : H' a = none) (ho : ∀ ps, o ≠ .tbl ps) : Alloc G H (upd G' a o) (upd H' a o)
theorem R.alloc' {W : Wd} {G H G' H' : Hp} {e : Ev} {p : Pen} {σ : L2.St} (r : R W G e p σ H) (a : Alloc G H G' H') : R W G' e p σ H' ∧ Sub G G' := by
  induction a with
  | refl => exact ⟨r, Sub.refl _⟩
  | step l h ho ih => exact ⟨ih.1.alloc h ho, ih.2.trans (Sub.new (ih.1.base.free h).2.1)⟩
def Lift2 (X : Cx) (r : R2) (g : D → D → Option D) : Prop := ∀ (w : Wl) (G H : Hp) (x y : V) (dx dy dz : D) (Q : VK), Sub G H → G w.pa = none → RepW (wd X w) G x dx → RepQ (wd X w) G H y dy → g dx dy = some dz →
  (∀ G' H' v, Alloc G H G' H' → RepW (wd X w) G' v dz → Q v H') → r x y H Q
def optR {α : Type} (o : Option α) (e : Ev) (p : Pen) : Res α := match o with
  | some d => .ok d e p
  | none => .bad
def eBin (g : D → D → Option D) (fa fb : EM) : EM := fun e p => (fa e p).bind fun x e1 p1 => (fb e1 p1).bind fun y e2 p2 => optR (g x y) e2 p2
theorem bin_w {ta tb : EM} {r : R2} {g : D → D → Option D} (l : Lift2 X r g) (σ : L2.St) (H : Hp) (Q : VK) (h : tE X WW (eBin g ta tb) σ H Q) : tOp r (tE X WW ta) (tQ X WW tb) σ H Q := by
  obtain ⟨w, G, e, p, r0, q⟩ := h
  refine ⟨w, G, e, p, r0, ?_⟩
  have q1 := Post.bind (RP := rpE (wd X w)) q
  generalize ta e p = ra at q1 ⊢
  cases ra with
  | bad => exact q1
  | exc x e1 p1 => exact q1
  | ok dx e1 p1 =>
    intro G1 x H1 s1 R1 hx
    obtain ⟨G2, d2, e2, p2, s2, R2, hx2, q2⟩ := q1 G1 x H1 s1 R1 hx
    refine ⟨w, G2, e2, p2, R2, ?_⟩
    have q3 := Post.bind (RP := rpQ (wd X w)) q2
    generalize tb e2 p2 = rb at q3 ⊢
    cases rb with
    | bad => exact q3
    | exc x e1 p1 => exact q3
    | ok dy e3 p3 =>
      intro G3 y H3 s3 R3 hy
      obtain ⟨G4, d4, e4, p4, s4, R4, hy4, q4⟩ := q3 G3 y H3 s3 R3 hy
      cases hg : g d2 d4 with
      | none => rw [hg] at q4; exact q4.elim
      | some dz =>
        rw [hg] at q4
        refine l w G4 H3 x y d2 d4 dz Q R4.sub R4.base.pen.1 (hx2.mono s4) hy4 hg fun G5 H5 v al hv => ?_
        obtain ⟨R5, s5⟩ := R4.alloc' al
        exact q4 G5 v H5 s5 R5 hv
theorem de_bin {op : Operator} {r : R2} {g : D → D → Option D} {a b : Expr} {fa fb : EM} {pos : Pos} (ho : OpR X (binaryOp op) r) (l : Lift2 X r g) (ha : DE X WW a fa) (hb : DQ X WW b fb) : DE X WW (.BinOp a op b pos) (eBin g fa fb) :=
  PEw (pe_op ho ha hb) (bin_w l)
theorem de_cmp {op : CmpOp} {r : R2} {g : D → D → Option D} {a b : Expr} {fa fb : EM} {pos : Pos} (ho : OpR X (compareOp op) r) (l : Lift2 X r g) (ha : DE X WW a fa) (hb : DQ X WW b fb) (hm : behindInMarks op b = false := by rfl) : DE X WW (.Compare a [op] [b] pos) (eBin g fa fb) :=
  PEw (pe_cmpR ho ha hb hm) (bin_w l)
end
end Pd

namespace Pd
open PySem PySem.Spec L2

mutual
def D.py : D → PyData
  | .non => .none
  | .bl b => .bool b
  | .int i => .int i
  | .str x => .str x
  | .tup xs => .tuple (D.pys xs)
  | .lst xs => .list (D.pys xs)
  | .obj _ _ => .none
  | .dk _ => .none
  | .dt _ => .none
  | .pen => .none
def D.pys : List D → List PyData
  | [] => []
  | x :: xs => D.py x :: D.pys xs
end
def D.pl : Nat → D → Bool
  | _, .non => true
  | _, .bl _ => true
  | _, .int _ => true
  | _, .str x => PyData.strOk x
  | n + 1, .tup xs => xs.all (D.pl n)
  | n + 1, .lst xs => xs.all (D.pl n)
  | _, _ => false
mutual
def D.beq : D → D → Bool
  | .non, .non => true
  | .bl a, .bl b => a == b
  | .bl a, .int j => (if a then 1 else 0) == j
  | .int i, .bl b => i == (if b then 1 else 0)
  | .int i, .int j => i == j
  | .str x, .str y => x == y
  | .lst xs, .lst ys => D.beqs xs ys
  | .tup xs, .tup ys => D.beqs xs ys
  | _, _ => false
def D.beqs : List D → List D → Bool
  | [], [] => true
  | x :: xs, y :: ys => D.beq x y && D.beqs xs ys
  | _, _ => false
end
mutual
theorem beq_py : ∀ {n m : Nat} (d e : D), d.pl n = true → e.pl m = true → PyData.eqv d.py e.py = D.beq d e
  | _, _, .non, .non, _, _ => by simp [D.py, D.beq, PyData.eqv]
  | _, _, .non, .bl _, _, _ => by simp [D.py, D.beq, PyData.eqv]
  | _, _, .non, .int _, _, _ => by simp [D.py, D.beq, PyData.eqv]
  | _, _, .non, .str _, _, _ => by simp [D.py, D.beq, PyData.eqv]
  | _, _, .non, .tup _, _, _ => by simp [D.py, D.beq, PyData.eqv]
  | _, _, .non, .lst _, _, _ => by simp [D.py, D.beq, PyData.eqv]
  | _, _, .bl _, .non, _, _ => by simp [D.py, D.beq, PyData.eqv]
  | _, _, .bl _, .bl _, _, _ => by simp [D.py, D.beq, PyData.eqv]
  | _, _, .bl _, .int _, _, _ => by simp [D.py, D.beq, PyData.eqv]
  | _, _, .bl _, .str _, _, _ => by simp [D.py, D.beq, PyData.eqv]
  | _, _, .bl _, .tup _, _, _ => by simp [D.py, D.beq, PyData.eqv]
  | _, _, .bl _, .lst _, _, _ => by simp [D.py, D.beq, PyData.eqv]
  | _, _, .int _, .non, _, _ => by simp [D.py, D.beq, PyData.eqv]
  | _, _, .int _, .bl _, _, _ => by simp [D.py, D.beq, PyData.eqv]
  | _, _, .int _, .int _, _, _ => by simp [D.py, D.beq, PyData.eqv]
  | _, _, .int _, .str _, _, _ => by simp [D.py, D.beq, PyData.eqv]
  | _, _, .int _, .tup _, _, _ => by simp [D.py, D.beq, PyData.eqv]
  | _, _, .int _, .lst _, _, _ => by simp [D.py, D.beq, PyData.eqv]
  | _, _, .str _, .non, _, _ => by simp [D.py, D.beq, PyData.eqv]
  | _, _, .str _, .bl _, _, _ => by simp [D.py, D.beq, PyData.eqv]
  | _, _, .str _, .int _, _, _ => by simp [D.py, D.beq, PyData.eqv]
  | _, _, .str _, .str _, _, _ => by simp [D.py, D.beq, PyData.eqv]
  | _, _, .str _, .tup _, _, _ => by simp [D.py, D.beq, PyData.eqv]
  | _, _, .str _, .lst _, _, _ => by simp [D.py, D.beq, PyData.eqv]
  | _, _, .tup _, .non, _, _ => by simp [D.py, D.beq, PyData.eqv]
  | _, _, .tup _, .bl _, _, _ => by simp [D.py, D.beq, PyData.eqv]
  | _, _, .tup _, .int _, _, _ => by simp [D.py, D.beq, PyData.eqv]
  | _, _, .tup _, .str _, _, _ => by simp [D.py, D.beq, PyData.eqv]
  | n + 1, m + 1, .tup xs, .tup ys, h, k => by
    simp only [D.py, D.beq, PyData.eqv]
    exact beqs_py xs ys (by simpa [D.pl] using h) (by simpa [D.pl] using k)
  | _, _, .tup _, .lst _, _, _ => by simp [D.py, D.beq, PyData.eqv]
  | _, _, .lst _, .non, _, _ => by simp [D.py, D.beq, PyData.eqv]
  | _, _, .lst _, .bl _, _, _ => by simp [D.py, D.beq, PyData.eqv]
  | _, _, .lst _, .int _, _, _ => by simp [D.py, D.beq, PyData.eqv]
  | _, _, .lst _, .str _, _, _ => by simp [D.py, D.beq, PyData.eqv]
  | _, _, .lst _, .tup _, _, _ => by simp [D.py, D.beq, PyData.eqv]
  | n + 1, m + 1, .lst xs, .lst ys, h, k => by
    simp only [D.py, D.beq, PyData.eqv]
    exact beqs_py xs ys (by simpa [D.pl] using h) (by simpa [D.pl] using k)
  | 0, _, .tup _, .tup _, h, _ => by simp [D.pl] at h
  | _ + 1, 0, .tup _, .tup _, _, h => by simp [D.pl] at h
  | 0, _, .lst _, .lst _, h, _ => by simp [D.pl] at h
  | _ + 1, 0, .lst _, .lst _, _, h => by simp [D.pl] at h
  | n, _, .obj _ _, _, h, _ => by cases n <;> simp [D.pl] at h
  | n, _, .pen, _, h, _ => by cases n <;> simp [D.pl] at h
  | n, _, .dk _, _, h, _ => by cases n <;> simp [D.pl] at h
  | n, _, .dt _, _, h, _ => by cases n <;> simp [D.pl] at h
  | _, m, _, .dk _, _, h => by cases m <;> simp [D.pl] at h
  | _, m, _, .dt _, _, h => by cases m <;> simp [D.pl] at h
  | _, m, _, .obj _ _, _, h => by cases m <;> simp [D.pl] at h
  | _, m, _, .pen, _, h => by cases m <;> simp [D.pl] at h
theorem beqs_py : ∀ {n m : Nat} (ds es : List D), (∀ d ∈ ds, d.pl n = true) → (∀ e ∈ es, e.pl m = true) → PyData.eqvAll (D.pys ds) (D.pys es) = D.beqs ds es
  | _, _, [], [], _, _ => by simp [D.pys, D.beqs, PyData.eqvAll]
  | _, _, [], _ :: _, _, _ => by simp [D.pys, D.beqs, PyData.eqvAll]
  | _, _, _ :: _, [], _, _ => by simp [D.pys, D.beqs, PyData.eqvAll]
  | n, m, d :: ds, e :: es, h, k => by
    simp only [D.pys, D.beqs, PyData.eqvAll]
    rw [beq_py d e (h d (by simp)) (k e (by simp)), beqs_py ds es (fun x hx => h x (by simp [hx])) (fun x hx => k x (by simp [hx]))]
end
mutual
theorem lay_py : ∀ {n : Nat} (d : D), d.pl n = true → d.py.canLay0 = true ∧ d.py.depth ≤ n
  | _, .non, _ => by simp [D.py, PyData.canLay0, PyData.depth]
  | _, .bl _, _ => by simp [D.py, PyData.canLay0, PyData.depth]
  | _, .int _, _ => by simp [D.py, PyData.canLay0, PyData.depth]
  | n, .str x, h => by
    have h' : PyData.strOk x = true := by cases n <;> simpa [D.pl] using h
    simp [D.py, PyData.canLay0, PyData.depth, h']
  | n + 1, .tup xs, h => by
    have := lays_py (n := n) xs (by simpa [D.pl] using h)
    simp [D.py, PyData.canLay0, PyData.depth, this]
  | n + 1, .lst xs, h => by
    have := lays_py (n := n) xs (by simpa [D.pl] using h)
    simp [D.py, PyData.canLay0, PyData.depth, this]
  | 0, .tup _, h => by simp [D.pl] at h
  | 0, .lst _, h => by simp [D.pl] at h
  | n, .obj _ _, h => by cases n <;> simp [D.pl] at h
  | n, .pen, h => by cases n <;> simp [D.pl] at h
  | n, .dk _, h => by cases n <;> simp [D.pl] at h
  | n, .dt _, h => by cases n <;> simp [D.pl] at h
theorem lays_py : ∀ {n : Nat} (ds : List D), (∀ d ∈ ds, d.pl n = true) → PyData.canLayAll0 (D.pys ds) = true ∧ PyData.depthAll (D.pys ds) ≤ n
  | _, [], _ => by simp [D.pys, PyData.canLayAll0, PyData.depthAll]
  | n, d :: ds, h => by
    obtain ⟨a, b⟩ := lay_py d (h d (by simp))
    obtain ⟨c, e⟩ := lays_py ds (fun x hx => h x (by simp [hx]))
    simp only [D.pys, PyData.canLayAll0, PyData.depthAll, a, c, Bool.and_self, true_and]
    omega
end
theorem shaped_py {d : D} (h : d.pl 12 = true) : SeqAt.shaped d.py = true := by
  obtain ⟨a, b⟩ := lay_py d h
  unfold SeqAt.shaped
  rw [a, Bool.true_and]
  exact decide_eq_true (by omega)

section
variable {K : PySem.W.Frag} {mg : Str → Option Value} {pa : Addr} {G H : Hp}
mutual
theorem Rep.dp (s : Sub G H) : ∀ {n : Nat} {v : V} {d : D}, Rep K mg pa G v d → d.pl n = true → Dp K H v d.py
  | _, _, _, .non, _ => .non
  | _, _, _, .bl b, _ => .bl b
  | _, _, _, .int b, _ => .int b
  | _, _, _, .str b, _ => .str b
  | n + 1, _, _, .tup h r, k => .tup (SqT.of (s _ _ h)) (Reps.dp s r (by simpa [D.pl] using k))
  | n + 1, _, _, .lst h r, k => .lst (SqL.of (s _ _ h)) (Reps.dp s r (by simpa [D.pl] using k))
  | 0, _, _, .tup _ _, k => by simp [D.pl] at k
  | 0, _, _, .lst _ _, k => by simp [D.pl] at k
  | n, _, _, .obj _ _ _ _, k => by cases n <;> simp [D.pl] at k
  | n, _, _, .dk _ _ _, k => by cases n <;> simp [D.pl] at k
  | n, _, _, .dt _ _ _, k => by cases n <;> simp [D.pl] at k
  | n, _, _, .pen, k => by cases n <;> simp [D.pl] at k
theorem Reps.dp (s : Sub G H) : ∀ {n : Nat} {vs : List V} {ds : List D}, Reps K mg pa G vs ds → (∀ d ∈ ds, d.pl n = true) → DpAll K H vs (D.pys ds)
  | _, _, _, .nil, _ => .nil
  | _, _, _, .cons h r, k => .cons (Rep.dp s h (k _ (by simp))) (Reps.dp s r fun x hx => k x (by simp [hx]))
end
end
theorem RepQ.dp {W : Wd} {G H : Hp} {n : Nat} {v : V} {d : D} (s : Sub G H) (h : RepQ W G H v d) (k : d.pl (n + 1) = true) : Dp W.K H v d.py := by
  rcases h with h | ⟨a, vs, ds, rfl, rfl, h, r⟩
  · exact h.dp s k
  · exact .lst (SqL.of h) (r.dp s (n := n) (by simpa [D.pl] using k))

def intOp (g : Int → Int → D) : D → D → Option D
  | .int i, .int j => some (g i j)
  | _, _ => none
def eqD (x y : D) : Option D := if x.pl 12 = true ∧ y.pl 12 = true then some (.bl (x.beq y)) else none
def neD (x y : D) : Option D := if x.pl 12 = true ∧ y.pl 12 = true then some (.bl (!x.beq y)) else none
abbrev small (n : Nat) : Prop := n ≤ 10000000
theorem small.ok {n : Nat} (h : small n) : n ≤ sizeLine := by
  rw [sizeLine_eq]
  unfold small at h
  omega
theorem small.lt {n : Nat} (h : small n) : n < sizeLine := by
  rw [sizeLine_eq]
  unfold small at h
  omega
def addD : D → D → Option D
  | .int i, .int j => some (.int (i + j))
  | .str x, .str y => if small (x.length + y.length) then some (.str (x ++ y)) else none
  | .tup x, .tup y => if small (x.length + y.length) then some (.tup (x ++ y)) else none
  | .lst x, .lst y => if small (x.length + y.length) then some (.lst (x ++ y)) else none
  | _, _ => none
def subD : D → D → Option D := intOp fun i j => .int (i - j)
def mulD : D → D → Option D
  | .int i, .int j => if i.natAbs.log2 + j.natAbs.log2 < 1000000 then some (.int (i * j)) else none
  | .lst xs, .int k => if 0 ≤ k ∧ k ≤ 10000000 ∧ small (xs.length * k.toNat) then some (.lst (List.replicate k.toNat xs).flatten) else none
  | _, _ => none
def divD : D → D → Option D
  | .int i, .int j => if 0 < j ∧ j.natAbs.log2 < 9000 then some (.int (i / j)) else none
  | _, _ => none
def modD : D → D → Option D
  | .int i, .int j => if 0 < j then some (.int (i % j)) else none
  | _, _ => none
def powD : D → D → Option D
  | .int i, .int j => if 0 ≤ j ∧ j ≤ 1000000 ∧ i.natAbs < 2 ^ 64 then some (.int (i ^ j.toNat)) else none
  | _, _ => none
def ltD : D → D → Option D := intOp fun i j => .bl (decide (i < j))
def leD : D → D → Option D := intOp fun i j => .bl (decide (i ≤ j))
def gtD : D → D → Option D := intOp fun i j => .bl (decide (j < i))
def geD : D → D → Option D := intOp fun i j => .bl (decide (j ≤ i))
def inD : D → D → Option D
  | .str i, .str j => some (.bl (!(Builtin.Str.occurrences j i 0 j.length 1).isEmpty))
  | x, .lst ys => if x.pl 10 = true ∧ ys.all (D.pl 10) = true then some (.bl (ys.any fun z => D.beq z x)) else none
  | _, _ => none
def notInD (x y : D) : Option D := (inD x y).bind fun d => match d with
  | .bl b => some (.bl (!b))
  | _ => none

section
variable {X : Cx}
theorem Sub.fresh {G H : Hp} (s : Sub G H) {p : Addr} (hp : H p = none) : G p = none := by
  cases z : G p with
  | none => rfl
  | some o =>
    rw [s _ _ z] at hp
    cases hp
theorem al0 {G H : Hp} : Alloc G H G H := .refl _ _
theorem alN {G H : Hp} {a : Addr} {o : HO} (h : H a = none) (ho : ∀ ps, o ≠ .tbl ps := by (intro _ z; cases z)) : Alloc G H (upd G a o) (upd H a o) := .step (.refl _ _) h ho
theorem RepQ.int {W : Wd} {G H : Hp} {v : V} {i : Int} (h : RepQ W G H v (.int i)) : v = .int i := by
  rcases h with h | ⟨a, vs, ds, _, h, _⟩
  · cases h
    rfl
  · cases h
theorem RepQ.str {W : Wd} {G H : Hp} {v : V} {i : Str} (h : RepQ W G H v (.str i)) : v = .str i := by
  rcases h with h | ⟨a, vs, ds, _, h, _⟩
  · cases h
    rfl
  · cases h
theorem RepQ.tup {W : Wd} {G H : Hp} {v : V} {xs : List D} (s : Sub G H) (h : RepQ W G H v (.tup xs)) : ∃ a vs, v = .ref a ∧ SqT W.K G a vs ∧ RepsW W G vs xs := by
  rcases h with h | ⟨a, vs, ds, _, h, _⟩
  · cases h with
    | tup h r => exact ⟨_, _, rfl, SqT.of h, r⟩
  · cases h
theorem RepQ.tupX {W : Wd} {G H : Hp} {v : V} {xs : List D} (h : RepQ W G H v (.tup xs)) : ∃ a vs, v = .ref a ∧ G a = some (.tup vs) ∧ RepsW W G vs xs := by
  rcases h with h | ⟨a, vs, ds, _, h, _⟩
  · cases h with
    | tup h r => exact ⟨_, _, rfl, h, r⟩
  · cases h
theorem RepQ.lst {W : Wd} {G H : Hp} {v : V} {xs : List D} (s : Sub G H) (h : RepQ W G H v (.lst xs)) : ∃ a vs, v = .ref a ∧ H a = some (.lst vs) ∧ RepsW W G vs xs := by
  rcases h with h | ⟨a, vs, ds, rfl, h, h1, h2⟩
  · cases h with
    | lst h r => exact ⟨_, _, rfl, s _ _ h, r⟩
  · cases h
    exact ⟨a, vs, rfl, h1, h2⟩
theorem lift_I {g : Int → Int → D} {gv : Int → Int → V} {r : R2} (hr : ∀ i j H Q, Q (gv i j) H → r (.int i) (.int j) H Q) (hg : ∀ K mg pa G i j, Rep K mg pa G (gv i j) (g i j)) : Lift2 X r (intOp g) := by
  intro w G H x y dx dy dz Q s hpa hx hy hz q
  unfold intOp at hz
  split at hz
  · rename_i i j
    cases hx
    cases hy.int
    cases hz
    exact hr i j H Q (q G H _ al0 (hg _ _ _ _ i j))
  · cases hz
theorem l_sub : Lift2 X (rI0 fun i j => .int (i - j)) subD := lift_I (gv := fun i j => .int (i - j)) (fun i j H Q q => ⟨i, j, rfl, rfl, q⟩) fun _ _ _ _ i j => .int _
theorem l_lt : Lift2 X (rI0 fun i j => .bl (decide (i < j))) ltD := lift_I (gv := fun i j => .bl (decide (i < j))) (fun i j H Q q => ⟨i, j, rfl, rfl, q⟩) fun _ _ _ _ i j => .bl _
theorem l_le : Lift2 X (rI0 fun i j => .bl (decide (i ≤ j))) leD := lift_I (gv := fun i j => .bl (decide (i ≤ j))) (fun i j H Q q => ⟨i, j, rfl, rfl, q⟩) fun _ _ _ _ i j => .bl _
theorem l_gt : Lift2 X (rI0 fun i j => .bl (decide (j < i))) gtD := lift_I (gv := fun i j => .bl (decide (j < i))) (fun i j H Q q => ⟨i, j, rfl, rfl, q⟩) fun _ _ _ _ i j => .bl _
theorem l_ge : Lift2 X (rI0 fun i j => .bl (decide (j ≤ i))) geD := lift_I (gv := fun i j => .bl (decide (j ≤ i))) (fun i j H Q q => ⟨i, j, rfl, rfl, q⟩) fun _ _ _ _ i j => .bl _
theorem l_eq : Lift2 X (rEqD X.K) eqD := by
  intro w G H x y dx dy dz Q s hpa hx hy hz q
  unfold eqD at hz
  split at hz
  · rename_i h
    cases hz
    exact ⟨dx.py, dy.py, hx.dp s h.1, RepQ.dp (W := wd X w) s hy h.2, shaped_py h.1, shaped_py h.2, by rw [beq_py dx dy h.1 h.2]; exact q G H _ al0 (.bl _)⟩
  · cases hz
theorem l_ne : Lift2 X (rNeD X.K) neD := by
  intro w G H x y dx dy dz Q s hpa hx hy hz q
  unfold neD at hz
  split at hz
  · rename_i h
    cases hz
    exact ⟨dx.py, dy.py, hx.dp s h.1, RepQ.dp (W := wd X w) s hy h.2, shaped_py h.1, shaped_py h.2, by rw [beq_py dx dy h.1 h.2]; exact q G H _ al0 (.bl _)⟩
  · cases hz
def rAdd4 (K : PySem.W.Frag) : R2 := fun x y H Q => (rI0 (fun i j => .int (i + j)) x y H Q ∨ (∃ i j, x = .str i ∧ y = .str j ∧ i.length + j.length ≤ sizeLine ∧ Q (.str (i ++ j)) H)) ∨ L2.rCatA K x y H Q ∨ rCat x y H Q
theorem op_add4 : OpR X (binaryOp .Add) (rAdd4 X.K) := OpR.or (OpR.or op_add op_add_str) (OpR.or op_catA op_cat)
theorem l_add : Lift2 X (rAdd4 X.K) addD := by
  intro w G H x y dx dy dz Q s hpa hx hy hz q
  unfold addD at hz
  split at hz
  · rename_i i j
    cases hx
    cases hy.int
    cases hz
    exact .inl (.inl ⟨i, j, rfl, rfl, q G H _ al0 (.int _)⟩)
  · rename_i i j
    cases hx
    cases hy.str
    split at hz
    · rename_i hs
      cases hz
      exact .inl (.inr ⟨i, j, rfl, rfl, small.ok hs, q G H _ al0 (.str _)⟩)
    · cases hz
  · rename_i xs ys
    obtain ⟨b, us, rfl, hb, rb⟩ := hy.tupX
    split at hz
    · rename_i hs
      cases hz
      cases hx with
      | tup ha ra =>
        rename_i a vs
        have l1 := ra.length
        have l2 := rb.length
        refine .inr (.inl ⟨a, b, vs, us, rfl, rfl, SqT.of (s _ _ ha), SqT.of (s _ _ hb), by rw [l1, l2]; exact small.ok hs, ?_⟩)
        refine ⟨fun e => q G H _ al0 ?_, fun _ e => q G H _ al0 ?_, fun _ _ p hp => q _ _ _ (alN hp) (.tup upd_same ((ra.append rb).mono (Sub.new (s.fresh hp))))⟩
        · subst e
          have : xs = [] := List.length_eq_zero_iff.mp l1.symm
          subst this
          exact .tup hb rb
        · subst e
          have : ys = [] := List.length_eq_zero_iff.mp l2.symm
          subst this
          rw [List.append_nil]
          exact .tup ha ra
    · cases hz
  · rename_i xs ys
    obtain ⟨b, us, rfl, hb, rb⟩ := hy.lst s
    split at hz
    · rename_i hs
      cases hz
      cases hx with
      | lst ha ra =>
        rename_i a vs
        have l1 := ra.length
        have l2 := rb.length
        refine .inr (.inr ⟨a, b, vs, us, rfl, rfl, s _ _ ha, hb, by rw [l1, l2]; exact small.ok hs, fun p hp => q _ _ _ (alN hp) (.lst upd_same ((ra.append rb).mono (Sub.new (s.fresh hp))))⟩)
    · cases hz
  · cases hz
theorem l_mul : Lift2 X (fun x y H Q => rI CMulW (fun i j => .int (i * j)) x y H Q ∨ rRep x y H Q) mulD := by
  intro w G H x y dx dy dz Q s hpa hx hy hz q
  unfold mulD at hz
  split at hz
  · rename_i i j
    cases hx
    cases hy.int
    split at hz
    · rename_i h
      cases hz
      exact .inl ⟨i, j, rfl, rfl, h, q G H _ al0 (.int _)⟩
    · cases hz
  · rename_i xs k
    cases hy.int
    split at hz
    · rename_i h
      cases hz
      cases hx with
      | lst ha ra =>
        rename_i a vs
        have l1 := ra.length
        refine .inr ⟨a, k, vs, rfl, rfl, s _ _ ha, by omega, by omega, by rw [l1]; exact small.ok h.2.2, fun p hp => q _ _ _ (alN hp) (.lst upd_same (Reps.mono (Sub.new (s.fresh hp)) ?_))⟩
        generalize k.toNat = n
        induction n with
        | zero => exact .nil
        | succ n ih =>
          rw [List.replicate_succ, List.replicate_succ, List.flatten_cons, List.flatten_cons]
          exact ra.append ih
    · cases hz
  · cases hz
theorem op_mul2 : OpR X (binaryOp .Mult) (fun x y H Q => rI CMulW (fun i j => .int (i * j)) x y H Q ∨ rRep x y H Q) := OpR.or op_mulW op_rep
theorem l_div : Lift2 X (rI CDivW fun i j => .int (i / j)) divD := by
  intro w G H x y dx dy dz Q s hpa hx hy hz q
  unfold divD at hz
  split at hz
  · rename_i i j
    cases hx
    cases hy.int
    split at hz
    · rename_i h
      cases hz
      exact ⟨i, j, rfl, rfl, h, q G H _ al0 (.int _)⟩
    · cases hz
  · cases hz
theorem l_mod : Lift2 X (rI (fun _ j => 0 < j) fun i j => .int (i % j)) modD := by
  intro w G H x y dx dy dz Q s hpa hx hy hz q
  unfold modD at hz
  split at hz
  · rename_i i j
    cases hx
    cases hy.int
    split at hz
    · rename_i h
      cases hz
      exact ⟨i, j, rfl, rfl, h, q G H _ al0 (.int _)⟩
    · cases hz
  · cases hz
theorem l_pow : Lift2 X (rI CPow fun i j => .int (i ^ j.toNat)) powD := by
  intro w G H x y dx dy dz Q s hpa hx hy hz q
  unfold powD at hz
  split at hz
  · rename_i i j
    cases hx
    cases hy.int
    split at hz
    · rename_i h
      cases hz
      exact ⟨i, j, rfl, rfl, h, q G H _ al0 (.int _)⟩
    · cases hz
  · cases hz
def rIn3 (K : PySem.W.Frag) (n : Bool) : R2 := fun x y H Q => (∃ i j, x = .str i ∧ y = .str j ∧ Q (.bl (if n then !(!(Builtin.Str.occurrences j i 0 j.length 1).isEmpty) else !(Builtin.Str.occurrences j i 0 j.length 1).isEmpty)) H) ∨
  ∃ d ds, Dp K H x d ∧ Dp K H y (.list ds) ∧ SeqAt.shaped d = true ∧ SeqAt.shaped (.list ds) = true ∧ Q (.bl (if n then !ds.any fun z => PyData.eqv z d else ds.any fun z => PyData.eqv z d)) H
theorem op_in3 (hu : X.A.units + 65 < cLine) : OpR X (compareOp .In) (rIn3 X.K false) := OpR.or op_in_str (op_inD hu)
theorem op_notIn3 (hu : X.A.units + 65 < cLine) : OpR X (compareOp .NotIn) (rIn3 X.K true) := OpR.or op_notIn_str (op_notInD hu)
theorem any_py {d : D} {ys : List D} (h : d.pl 10 = true) (k : ys.all (D.pl 10) = true) : ((D.pys ys).any fun z => PyData.eqv z d.py) = ys.any fun z => D.beq z d := by
  induction ys with
  | nil => rfl
  | cons y ys ih =>
    rw [List.all_cons, Bool.and_eq_true] at k
    simp only [D.pys, List.any_cons]
    rw [ih k.2, beq_py y d k.1 h]
theorem pl_mono : ∀ {n m : Nat} {d : D}, n ≤ m → d.pl n = true → d.pl m = true
  | n, m, .non, _, _ => by cases m <;> rfl
  | n, m, .bl _, _, _ => by cases m <;> rfl
  | n, m, .int _, _, _ => by cases m <;> rfl
  | n, m, .str x, _, h => by
    have h' : PyData.strOk x = true := by cases n <;> simpa [D.pl] using h
    cases m <;> simpa [D.pl] using h'
  | n + 1, m + 1, .tup xs, l, h => by
    simp only [D.pl, List.all_eq_true] at h ⊢
    exact fun x hx => pl_mono (Nat.le_of_succ_le_succ l) (h x hx)
  | n + 1, m + 1, .lst xs, l, h => by
    simp only [D.pl, List.all_eq_true] at h ⊢
    exact fun x hx => pl_mono (Nat.le_of_succ_le_succ l) (h x hx)
  | 0, _, .tup _, _, h => by simp [D.pl] at h
  | 0, _, .lst _, _, h => by simp [D.pl] at h
  | _ + 1, 0, .tup _, l, _ => absurd l (by omega)
  | _ + 1, 0, .lst _, l, _ => absurd l (by omega)
  | n, _, .obj _ _, _, h => by cases n <;> simp [D.pl] at h
  | n, _, .pen, _, h => by cases n <;> simp [D.pl] at h
  | n, _, .dk _, _, h => by cases n <;> simp [D.pl] at h
  | n, _, .dt _, _, h => by cases n <;> simp [D.pl] at h
theorem in_core {n : Bool} {w : Wl} {G H : Hp} {x y : V} {dx : D} {ys : List D} {Q : VK} (s : Sub G H) (hx : RepW (wd X w) G x dx) (hy : RepQ (wd X w) G H y (.lst ys)) (h : dx.pl 10 = true) (k : ys.all (D.pl 10) = true)
    (q : Q (.bl (if n then !ys.any (fun z => D.beq z dx) else ys.any fun z => D.beq z dx)) H) : rIn3 X.K n x y H Q := by
  have k2 : (D.lst ys).pl 11 = true := k
  have hp : D.py (.lst ys) = .list (D.pys ys) := by simp [D.py]
  refine .inr ⟨dx.py, D.pys ys, hx.dp s h, by rw [← hp]; exact RepQ.dp (W := wd X w) s hy k2, shaped_py (pl_mono (by decide) h), by rw [← hp]; exact shaped_py (pl_mono (by decide) k2), ?_⟩
  rw [any_py h k]
  exact q
theorem l_in : Lift2 X (rIn3 X.K false) inD := by
  intro w G H x y dx dy dz Q s hpa hx hy hz q
  unfold inD at hz
  split at hz
  · rename_i i j
    cases hx
    cases hy.str
    cases hz
    exact .inl ⟨i, j, rfl, rfl, q G H _ al0 (.bl _)⟩
  · rename_i ys _
    split at hz
    · rename_i h
      cases hz
      exact in_core s hx hy h.1 h.2 (q G H _ al0 (.bl _))
    · cases hz
  · cases hz
theorem l_notIn : Lift2 X (rIn3 X.K true) notInD := by
  intro w G H x y dx dy dz Q s hpa hx hy hz q
  unfold notInD at hz
  cases hi : inD dx dy with
  | none => rw [hi] at hz; cases hz
  | some d =>
    rw [hi] at hz
    unfold inD at hi
    split at hi
    · rename_i i j
      cases hx
      cases hy.str
      cases hi
      cases hz
      exact .inl ⟨i, j, rfl, rfl, q G H _ al0 (.bl _)⟩
    · rename_i ys _
      split at hi
      · rename_i h
        cases hi
        cases hz
        exact in_core s hx hy h.1 h.2 (q G H _ al0 (.bl _))
      · cases hi
    · cases hi
end
end Pd

namespace Pd
open PySem PySem.Spec L2

def D.flat : D → Bool
  | .non => true
  | .bl _ => true
  | .int _ => true
  | .str _ => true
  | _ => false
def inD2 : D → D → Option D
  | x, .tup ys => if x.flat = true ∧ ys.all D.flat = true then some (.bl (ys.any fun z => D.beq z x)) else none
  | x, y => inD x y
def notInD2 (x y : D) : Option D := (inD2 x y).bind fun d => match d with
  | .bl b => some (.bl (!b))
  | _ => none
section
variable {X : Cx} {WW : WX}
theorem flat_V {K : PySem.W.Frag} {mg : Str → Option Value} {pa : Addr} {G : Hp} {v : V} {d : D} (r : Rep K mg pa G v d) (h : d.flat = true) : flatV v = true := by
  cases r <;> first | rfl | (simp [D.flat] at h)
theorem flat_eq {K : PySem.W.Frag} {mg : Str → Option Value} {pa : Addr} {G : Hp} {v u : V} {d e : D} (r : Rep K mg pa G v d) (t : Rep K mg pa G u e) (h : d.flat = true) (k : e.flat = true) : eqV v u = D.beq d e := by
  cases r <;> first
    | (simp [D.flat] at h; done)
    | (cases t <;> first | (simp [D.flat] at k; done) | simp [eqV, D.beq])
theorem flat_any {K : PySem.W.Frag} {mg : Str → Option Value} {pa : Addr} {G : Hp} {u : V} {e : D} (t : Rep K mg pa G u e) (k : e.flat = true) : ∀ {vs : List V} {ds : List D}, Reps K mg pa G vs ds → ds.all D.flat = true → vs.all flatV = true ∧ inV u vs = ds.any fun z => D.beq z e
  | _, _, .nil, _ => ⟨rfl, rfl⟩
  | _, _, .cons h r, q => by
    rw [List.all_cons, Bool.and_eq_true] at q
    obtain ⟨a, b⟩ := flat_any t k r q.2
    refine ⟨by rw [List.all_cons, flat_V h q.1, a]; rfl, ?_⟩
    unfold inV at b ⊢
    rw [List.any_cons, List.any_cons, flat_eq h t q.1 k, b]
def rIn4 (K : PySem.W.Frag) (n : Bool) : R2 := fun x y H Q => rIn3 K n x y H Q ∨ rIn K n x y H Q
theorem op_in4 (hu : X.A.units + 65 < cLine) : OpR X (compareOp .In) (rIn4 X.K false) := OpR.or (op_in3 hu) op_in_seq
theorem op_notIn4 (hu : X.A.units + 65 < cLine) : OpR X (compareOp .NotIn) (rIn4 X.K true) := OpR.or (op_notIn3 hu) op_notIn_seq
theorem in_tup {n : Bool} {w : Wl} {G H : Hp} {x y : V} {dx : D} {ys : List D} {Q : VK} (s : Sub G H) (hx : RepW (wd X w) G x dx) (hy : RepQ (wd X w) G H y (.tup ys)) (h : dx.flat = true) (k : ys.all D.flat = true)
    (q : Q (.bl (if n then !ys.any (fun z => D.beq z dx) else ys.any fun z => D.beq z dx)) H) : rIn4 X.K n x y H Q := by
  obtain ⟨b, us, rfl, hb, rb⟩ := hy.tup s
  obtain ⟨a1, a2⟩ := flat_any hx h rb k
  refine .inr ⟨b, us, rfl, .inr (s.t hb), flat_V hx h, a1, ?_⟩
  rw [a2]
  exact q
theorem in_tupK {n : Bool} {w : Wl} {G H : Hp} {x : V} {b : Addr} {us : List V} {dx : D} {ys : List D} {Q : VK} (hx : RepW (wd X w) G x dx) (hb : SqT X.K H b us) (rb : RepsW (wd X w) G us ys) (h : dx.flat = true) (k : ys.all D.flat = true)
    (q : Q (.bl (if n then !ys.any (fun z => D.beq z dx) else ys.any fun z => D.beq z dx)) H) : rIn4 X.K n x (.ref b) H Q := by
  obtain ⟨a1, a2⟩ := flat_any hx h rb k
  refine .inr ⟨b, us, rfl, .inr hb, flat_V hx h, a1, ?_⟩
  rw [a2]
  exact q
theorem l_in2 : Lift2 X (rIn4 X.K false) inD2 := by
  intro w G H x y dx dy dz Q s hpa hx hy hz q
  unfold inD2 at hz
  split at hz
  · split at hz
    · rename_i h
      cases hz
      exact in_tup s hx hy h.1 h.2 (q G H _ al0 (.bl _))
    · cases hz
  · exact .inl (l_in w G H x y dx dy dz Q s hpa hx hy hz q)
theorem l_notIn2 : Lift2 X (rIn4 X.K true) notInD2 := by
  intro w G H x y dx dy dz Q s hpa hx hy hz q
  unfold notInD2 inD2 at hz
  split at hz
  · split at hz
    · rename_i h
      cases hz
      exact in_tup s hx hy h.1 h.2 (q G H _ al0 (.bl _))
    · cases hz
  · exact .inl (l_notIn w G H x y dx dy dz Q s hpa hx hy hz q)

def truD : D → Option Bool
  | .non => some false
  | .bl b => some b
  | .int i => some (i != 0)
  | .str y => if small y.length then some ((y.length : Int) != 0) else none
  | .tup xs => some (!xs.isEmpty)
  | .lst xs => some (!xs.isEmpty)
  | _ => none
def boD : D → Option Bool
  | .bl b => some b
  | _ => none
theorem Reps.isEmpty {K : PySem.W.Frag} {mg : Str → Option Value} {pa : Addr} {G : Hp} {vs : List V} {ds : List D} (r : Reps K mg pa G vs ds) : vs.isEmpty = ds.isEmpty := by cases r <;> rfl
theorem RepQ.tru {W : Wd} {G H : Hp} {v : V} {d : D} {k : Bool} (s : Sub G H) (h : RepQ W G H v d) (e : truD d = some k) : TruV W.K v H k := by
  cases d with
  | non =>
    rcases h with h | ⟨a, vs, ds, _, h, _⟩
    · cases h; cases e; rfl
    · cases h
  | bl b =>
    rcases h with h | ⟨a, vs, ds, _, h, _⟩
    · cases h; cases e; rfl
    · cases h
  | int i => cases h.int; cases e; rfl
  | str y =>
    cases h.str
    have e : (if small y.length then some ((y.length : Int) != 0) else none) = some k := e
    split at e
    · rename_i hs; cases e; exact ⟨small.ok hs, rfl⟩
    · cases e
  | tup xs =>
    obtain ⟨a, vs, rfl, h1, h2⟩ := h.tup s
    cases e
    exact .inr (.inl ⟨vs, s.t h1, by rw [h2.isEmpty]⟩)
  | lst xs =>
    obtain ⟨a, vs, rfl, h1, h2⟩ := h.lst s
    cases e
    exact .inl ⟨vs, SqL.of h1, by rw [h2.isEmpty]⟩
  | obj c fs => cases e
  | dk kvs => cases e
  | dt kvs => cases e
  | pen => cases e
def tmE (f : EM) : TM := fun e p => (f e p).bind fun d e p => optR (truD d) e p
def tmB (f : EM) : TM := fun e p => (f e p).bind fun d e p => optR (boD d) e p
theorem dt_truth {a : Expr} {f : EM} (ha : DQ X WW a f) (he : ∀ whole, isTrue a X.env whole = (do let v ← whole; standAt a.pos; holding [v] (truthy v)) := by intro _; rfl) : DT X WW a (tmE f) :=
  PTw (pt_truth ha he) fun σ H Q ⟨w, G, e, p, r, q⟩ => ⟨w, G, e, p, r, by
    have q1 := Post.bind (RP := rpQ (wd X w)) q
    generalize f e p = ra at q1 ⊢
    cases ra with
    | bad => exact q1
    | exc x e1 p1 => exact q1
    | ok d e1 p1 =>
      intro G1 x H1 s1 R1 hx
      obtain ⟨G2, d2, e2, p2, s2, R2, hx2, q2⟩ := q1 G1 x H1 s1 R1 hx
      cases ht : truD d2 with
      | none => rw [ht] at q2; exact q2.elim
      | some k =>
        rw [ht] at q2
        exact ⟨k, RepQ.tru (W := wd X w) R2.sub hx2 ht, q2 G2 k H1 (Sub.refl _) R2 rfl⟩⟩
theorem tb_w {t : EM} {t0 : TE} (h : ∀ σ H Q, tE X WW t σ H Q → t0 σ H Q) (σ : L2.St) (H : Hp) (Q : Bool → Hp → Prop) (q : tT X WW (tmB t) σ H Q) : t0 σ H fun x H' => ∃ k, x = .bl k ∧ Q k H' := by
  obtain ⟨w, G, e, p, r, q⟩ := q
  refine h σ H _ ⟨w, G, e, p, r, ?_⟩
  have q1 := Post.bind (RP := rpE (wd X w)) q
  generalize t e p = ra at q1 ⊢
  cases ra with
  | bad => exact q1
  | exc x e1 p1 => exact q1
  | ok d e1 p1 =>
    intro G1 x H1 s1 R1 hx
    obtain ⟨G2, d2, e2, p2, s2, R2, hx2, q2⟩ := q1 G1 x H1 s1 R1 hx
    cases d2 with
    | bl b =>
      cases hx2
      exact ⟨b, rfl, q2 G2 b H1 (Sub.refl _) R2 rfl⟩
    | _ => exact q2.elim
theorem dt_cmp {op : CmpOp} {r : R2} {g : D → D → Option D} {a b : Expr} {fa fb : EM} {pos : Pos} (ho : OpR X (compareOp op) r) (l : Lift2 X r g) (ha : DE X WW a fa) (hb : DQ X WW b fb) (hm : behindInMarks op b = false := by rfl) : DT X WW (.Compare a [op] [b] pos) (tmB (eBin g fa fb)) :=
  PTw (pt_cmpR ho ha hb hm) (tb_w (bin_w l))

def isN : D → Bool
  | .non => true
  | _ => false
def eIsN (f : EM) : EM := fun e p => (f e p).bind fun d e p => .ok (.bl (isN d)) e p
def eNotN (f : EM) : EM := fun e p => (f e p).bind fun d e p => .ok (.bl (!isN d)) e p
theorem isN_V {K : PySem.W.Frag} {mg : Str → Option Value} {pa : Addr} {G : Hp} {v : V} {d : D} (r : Rep K mg pa G v d) : decide (v = .non) = isN d := by cases r <;> simp [isN]
theorem isN_w {f : EM} {n : Bool} (σ : L2.St) (H : Hp) (Q : VK) (q : tE X WW (fun e p => (f e p).bind fun d e p => .ok (.bl (if n then !isN d else isN d)) e p) σ H Q) : tE X WW f σ H fun x H1 => Q (.bl (if n then !decide (x = .non) else decide (x = .non))) H1 := by
  obtain ⟨w, G, e, p, r, q⟩ := q
  refine ⟨w, G, e, p, r, ?_⟩
  have q1 := Post.bind (RP := rpE (wd X w)) q
  generalize f e p = ra at q1 ⊢
  cases ra with
  | bad => exact q1
  | exc x e1 p1 => exact q1
  | ok d e1 p1 =>
    intro G1 x H1 s1 R1 hx
    obtain ⟨G2, d2, e2, p2, s2, R2, hx2, q2⟩ := q1 G1 x H1 s1 R1 hx
    rw [isN_V hx2]
    exact q2 G2 _ H1 (Sub.refl _) R2 (.bl _)
theorem de_isN {a : Expr} {f : EM} {j pos' pos} (ha : DE X WW a f) : DE X WW (.Compare a [.Is] [.Constant .none j pos'] pos) (eIsN f) := PEw (pe_cmp (pc_isN ha)) fun σ H Q q => isN_w (n := false) σ H Q q
theorem de_notN {a : Expr} {f : EM} {j pos' pos} (ha : DE X WW a f) : DE X WW (.Compare a [.IsNot] [.Constant .none j pos'] pos) (eNotN f) := PEw (pe_cmp (pc_notN ha)) fun σ H Q q => isN_w (n := true) σ H Q q
theorem dt_isN {a : Expr} {f : EM} {j pos' pos} (ha : DE X WW a f) : DT X WW (.Compare a [.Is] [.Constant .none j pos'] pos) (tmB (eIsN f)) := PTw (pt_cmp (pc_isN ha)) fun σ H Q q => tb_w (t := eIsN f) (t0 := tIsN (tE X WW f)) (fun σ H Q q => isN_w (n := false) σ H Q q) σ H Q q
theorem dt_notN {a : Expr} {f : EM} {j pos' pos} (ha : DE X WW a f) : DT X WW (.Compare a [.IsNot] [.Constant .none j pos'] pos) (tmB (eNotN f)) := PTw (pt_cmp (pc_notN ha)) fun σ H Q q => tb_w (t := eNotN f) (t0 := tNotN (tE X WW f)) (fun σ H Q q => isN_w (n := true) σ H Q q) σ H Q q

def tmAnd (a b : TM) : TM := fun e p => (a e p).bind fun k e p => if k = true then b e p else .ok false e p
def tmOr (a b : TM) : TM := fun e p => (a e p).bind fun k e p => if k = true then .ok true e p else b e p
def tmNot (a : TM) : TM := fun e p => (a e p).bind fun k e p => .ok (!k) e p
abbrev DW (X : Cx) (WW : WX) (e : Expr) (f : TM) : Prop := PW X e (tT X WW f)
variable {a b : Expr} {rest : List Expr} {pos : Pos} {ta tb : TM} {fa fb : EM}
theorem tt_w {k : Bool → Ev → Pen → Res Bool} {ta : TM} {σ : L2.St} {H : Hp} {Q : Bool → Hp → Prop} (q : tT X WW (fun e p => (ta e p).bind k) σ H Q) : tT X WW ta σ H fun c H1 => tT X WW (fun e p => k c e p) σ H1 Q := by
  obtain ⟨w, G, e, p, r, q⟩ := q
  refine ⟨w, G, e, p, r, ?_⟩
  have q1 := Post.bind (RP := rpT) q
  generalize ta e p = ra at q1 ⊢
  cases ra with
  | bad => exact q1
  | exc x e1 p1 => exact q1
  | ok d e1 p1 =>
    intro G1 x H1 s1 R1 hx
    obtain ⟨G2, d2, e2, p2, s2, R2, hx2, q2⟩ := q1 G1 x H1 s1 R1 hx
    subst hx2
    exact ⟨w, G2, e2, p2, R2, q2⟩
theorem tt_ok {c : Bool} {σ : L2.St} {H : Hp} {Q : Bool → Hp → Prop} (q : tT X WW (fun e p => .ok c e p) σ H Q) : Q c H := by
  obtain ⟨w, G, e, p, r, q⟩ := q
  exact q G c H (Sub.refl _) r rfl
theorem dw_and1 (h : DT X WW a ta) : DW X WW (.BoolOp .And [a] pos) ta := pw_and1 h
theorem dw_or1 (h : DT X WW a ta) : DW X WW (.BoolOp .Or [a] pos) ta := pw_or1 h
theorem dw_and (h : DT X WW a ta) (k : DW X WW (.BoolOp .And (b :: rest) pos) tb) : DW X WW (.BoolOp .And (a :: b :: rest) pos) (tmAnd ta tb) := PWw (pw_and h k) fun σ H Q q => by
  obtain ⟨w, G, e, p, r, q1⟩ := tt_w q
  refine ⟨w, G, e, p, r, ?_⟩
  generalize ta e p = ra at q1 ⊢
  cases ra with
  | bad => exact q1
  | exc x e1 p1 => exact q1
  | ok d e1 p1 =>
    intro G1 x H1 s1 R1 hx
    have q2 := q1 G1 x H1 s1 R1 hx
    cases x with
    | true => exact q2
    | false => exact tt_ok q2
theorem dw_or (h : DT X WW a ta) (k : DW X WW (.BoolOp .Or (b :: rest) pos) tb) : DW X WW (.BoolOp .Or (a :: b :: rest) pos) (tmOr ta tb) := PWw (pw_or h k) fun σ H Q q => by
  obtain ⟨w, G, e, p, r, q1⟩ := tt_w q
  refine ⟨w, G, e, p, r, ?_⟩
  generalize ta e p = ra at q1 ⊢
  cases ra with
  | bad => exact q1
  | exc x e1 p1 => exact q1
  | ok d e1 p1 =>
    intro G1 x H1 s1 R1 hx
    have q2 := q1 G1 x H1 s1 R1 hx
    cases x with
    | false => exact q2
    | true => exact tt_ok q2
theorem dt_w (h : DW X WW a ta) : DT X WW a ta := PW.pt h
theorem dt_not (h : DT X WW a ta) : DT X WW (.UnaryOp .Not a pos) (tmNot ta) := PTw (pt_not h) fun σ H Q q => by
  obtain ⟨w, G, e, p, r, q1⟩ := tt_w q
  refine ⟨w, G, e, p, r, ?_⟩
  generalize ta e p = ra at q1 ⊢
  cases ra with
  | bad => exact q1
  | exc x e1 p1 => exact q1
  | ok d e1 p1 => exact fun G1 x H1 s1 R1 hx => tt_ok (q1 G1 x H1 s1 R1 hx)
def eAnd (a b : EM) : EM := fun e p => (a e p).bind fun x e p => match truD x with
  | some true => b e p
  | some false => .ok x e p
  | none => .bad
def eOr (a b : EM) : EM := fun e p => (a e p).bind fun x e p => match truD x with
  | some true => .ok x e p
  | some false => b e p
  | none => .bad
def eNot (a : EM) : EM := fun e p => (a e p).bind fun x e p => match truD x with
  | some k => .ok (.bl (!k)) e p
  | none => .bad
theorem ee_w {k : D → Ev → Pen → Res D} {ta : EM} {σ : L2.St} {H : Hp} {Q : VK} (q : tE X WW (fun e p => (ta e p).bind k) σ H Q) :
    tE X WW ta σ H fun v H1 => ∃ w G d e p, R (wd X w) G e p σ H1 ∧ RepW (wd X w) G v d ∧ Post (rpE (wd X w)) (wd X w) WW σ Q G (k d e p) := by
  obtain ⟨w, G, e, p, r, q⟩ := q
  refine ⟨w, G, e, p, r, ?_⟩
  have q1 := Post.bind (RP := rpE (wd X w)) q
  generalize ta e p = ra at q1 ⊢
  cases ra with
  | bad => exact q1
  | exc x e1 p1 => exact q1
  | ok d e1 p1 =>
    intro G1 x H1 s1 R1 hx
    obtain ⟨G2, d2, e2, p2, s2, R2, hx2, q2⟩ := q1 G1 x H1 s1 R1 hx
    exact ⟨w, G2, d2, e2, p2, R2, hx2, q2⟩
theorem eq_w {k : D → Ev → Pen → Res D} {ta : EM} {σ : L2.St} {H : Hp} {Q : VK} (q : tE X WW (fun e p => (ta e p).bind k) σ H Q) :
    tQ X WW ta σ H fun v H1 => ∃ w G d e p, R (wd X w) G e p σ H1 ∧ RepQ (wd X w) G H1 v d ∧ Post (rpE (wd X w)) (wd X w) WW σ Q G (k d e p) := by
  obtain ⟨w, G, e, p, r, q⟩ := q
  refine ⟨w, G, e, p, r, ?_⟩
  have q1 := Post.bind (RP := rpQ (wd X w)) q
  generalize ta e p = ra at q1 ⊢
  cases ra with
  | bad => exact q1
  | exc x e1 p1 => exact q1
  | ok d e1 p1 =>
    intro G1 x H1 s1 R1 hx
    obtain ⟨G2, d2, e2, p2, s2, R2, hx2, q2⟩ := q1 G1 x H1 s1 R1 hx
    exact ⟨w, G2, d2, e2, p2, R2, hx2, q2⟩
theorem ea_w {k : List D → Ev → Pen → Res D} {ta : AM} {σ : L2.St} {H : Hp} {Q : VK} (q : tE X WW (fun e p => (ta e p).bind k) σ H Q) :
    tA X WW ta σ H fun v H1 => ∃ w G d e p, R (wd X w) G e p σ H1 ∧ RepsW (wd X w) G v d ∧ Post (rpE (wd X w)) (wd X w) WW σ Q G (k d e p) := by
  obtain ⟨w, G, e, p, r, q⟩ := q
  refine ⟨w, G, e, p, r, ?_⟩
  have q1 := Post.bind (RP := rpA (wd X w)) q
  generalize ta e p = ra at q1 ⊢
  cases ra with
  | bad => exact q1
  | exc x e1 p1 => exact q1
  | ok d e1 p1 =>
    intro G1 x H1 s1 R1 hx
    obtain ⟨G2, d2, e2, p2, s2, R2, hx2, q2⟩ := q1 G1 x H1 s1 R1 hx
    exact ⟨w, G2, d2, e2, p2, R2, hx2, q2⟩
theorem tE.imp {f : EM} {σ : L2.St} {H : Hp} {Q Q' : VK} (h : tE X WW f σ H Q) (k : ∀ v H, Q v H → Q' v H) : tE X WW f σ H Q' := by
  obtain ⟨w, G, e, p, r, q⟩ := h
  refine ⟨w, G, e, p, r, ?_⟩
  generalize f e p = ra at q ⊢
  cases ra with
  | bad => exact q
  | exc x e1 p1 => exact q
  | ok d e1 p1 => exact fun G1 x H1 s1 R1 hx => k _ _ (q G1 x H1 s1 R1 hx)
theorem tQ.imp {f : EM} {σ : L2.St} {H : Hp} {Q Q' : VK} (h : tQ X WW f σ H Q) (k : ∀ v H, Q v H → Q' v H) : tQ X WW f σ H Q' := by
  obtain ⟨w, G, e, p, r, q⟩ := h
  refine ⟨w, G, e, p, r, ?_⟩
  generalize f e p = ra at q ⊢
  cases ra with
  | bad => exact q
  | exc x e1 p1 => exact q
  | ok d e1 p1 => exact fun G1 x H1 s1 R1 hx => k _ _ (q G1 x H1 s1 R1 hx)
theorem tA.imp {f : AM} {σ : L2.St} {H : Hp} {Q Q' : List V → Hp → Prop} (h : tA X WW f σ H Q) (k : ∀ v H, Q v H → Q' v H) : tA X WW f σ H Q' := by
  obtain ⟨w, G, e, p, r, q⟩ := h
  refine ⟨w, G, e, p, r, ?_⟩
  generalize f e p = ra at q ⊢
  cases ra with
  | bad => exact q
  | exc x e1 p1 => exact q
  | ok d e1 p1 => exact fun G1 x H1 s1 R1 hx => k _ _ (q G1 x H1 s1 R1 hx)
theorem tT.imp {f : TM} {σ : L2.St} {H : Hp} {Q Q' : Bool → Hp → Prop} (h : tT X WW f σ H Q) (k : ∀ v H, Q v H → Q' v H) : tT X WW f σ H Q' := by
  obtain ⟨w, G, e, p, r, q⟩ := h
  refine ⟨w, G, e, p, r, ?_⟩
  generalize f e p = ra at q ⊢
  cases ra with
  | bad => exact q
  | exc x e1 p1 => exact q
  | ok d e1 p1 => exact fun G1 x H1 s1 R1 hx => k _ _ (q G1 x H1 s1 R1 hx)
theorem de_one {op} (h : DE X WW a fa) : DE X WW (.BoolOp op [a] pos) fa := pe_one h
theorem de_and (h : DE X WW a fa) (k : DE X WW (.BoolOp .And (b :: rest) pos) fb) : DE X WW (.BoolOp .And (a :: b :: rest) pos) (eAnd fa fb) := PEw (pe_andT h k) fun σ H Q q =>
  (ee_w q).imp fun v H1 ⟨w, G, d, e, p, r, hv, q1⟩ => by
    cases ht : truD d with
    | none => rw [ht] at q1; exact q1.elim
    | some t =>
      rw [ht] at q1
      refine ⟨t, RepQ.tru (W := wd X w) r.sub (.inl hv) ht, ?_⟩
      cases t with
      | true => exact ⟨w, G, e, p, r, q1⟩
      | false => exact q1 G v H1 (Sub.refl _) r hv
theorem de_or (h : DE X WW a fa) (k : DE X WW (.BoolOp .Or (b :: rest) pos) fb) : DE X WW (.BoolOp .Or (a :: b :: rest) pos) (eOr fa fb) := PEw (pe_orT h k) fun σ H Q q =>
  (ee_w q).imp fun v H1 ⟨w, G, d, e, p, r, hv, q1⟩ => by
    cases ht : truD d with
    | none => rw [ht] at q1; exact q1.elim
    | some t =>
      rw [ht] at q1
      refine ⟨t, RepQ.tru (W := wd X w) r.sub (.inl hv) ht, ?_⟩
      cases t with
      | false => exact ⟨w, G, e, p, r, q1⟩
      | true => exact q1 G v H1 (Sub.refl _) r hv
theorem de_not (h : DE X WW a fa) : DE X WW (.UnaryOp .Not a pos) (eNot fa) := PEw (pe_notT h) fun σ H Q q =>
  (ee_w q).imp fun v H1 ⟨w, G, d, e, p, r, hv, q1⟩ => by
    cases ht : truD d with
    | none => rw [ht] at q1; exact q1.elim
    | some t =>
      rw [ht] at q1
      exact ⟨t, RepQ.tru (W := wd X w) r.sub (.inl hv) ht, q1 G _ H1 (Sub.refl _) r (.bl _)⟩
def eIf (t : TM) (a b : EM) : EM := fun e p => (t e p).bind fun k e p => if k = true then a e p else b e p
theorem te_w {k : Bool → Ev → Pen → Res D} {ta : TM} {σ : L2.St} {H : Hp} {Q : VK} (q : tE X WW (fun e p => (ta e p).bind k) σ H Q) : tT X WW ta σ H fun c H1 => tE X WW (fun e p => k c e p) σ H1 Q := by
  obtain ⟨w, G, e, p, r, q⟩ := q
  refine ⟨w, G, e, p, r, ?_⟩
  have q1 := Post.bind (RP := rpT) q
  generalize ta e p = ra at q1 ⊢
  cases ra with
  | bad => exact q1
  | exc x e1 p1 => exact q1
  | ok d e1 p1 =>
    intro G1 x H1 s1 R1 hx
    obtain ⟨G2, d2, e2, p2, s2, R2, hx2, q2⟩ := q1 G1 x H1 s1 R1 hx
    subst hx2
    exact ⟨w, G2, e2, p2, R2, q2⟩
theorem de_if {c : Expr} (h : DT X WW c ta) (ha : DE X WW a fa) (hb : DE X WW b fb) : DE X WW (.IfExp c a b pos) (eIf ta fa fb) := PEw (pe_ifExp h ha hb) fun σ H Q q =>
  (te_w q).imp fun k H1 q1 => by
    cases k with
    | true => exact q1
    | false => exact q1
def eChain (g g' : D → D → Option D) (fa fb fc : EM) : EM := fun e p => (fa e p).bind fun x e p => (fb e p).bind fun y e p => match g x y with
  | some (.bl true) => (fc e p).bind fun z e p => optR (g' y z) e p
  | some (.bl false) => .ok (.bl false) e p
  | _ => .bad
theorem chain_w {r r' : R2} {g g' : D → D → Option D} {fa fb fc : EM} (l : Lift2 X r g) (l' : Lift2 X r' g') (σ : L2.St) (H : Hp) (Q : VK) (q : tE X WW (eChain g g' fa fb fc) σ H Q) : tChain r r' (tE X WW fa) (tE X WW fb) (tQ X WW fc) σ H Q := by
  refine (ee_w q).imp fun x H1 ⟨w, G, dx, e, p, r0, hx, q1⟩ => ?_
  refine ⟨w, G, e, p, r0, ?_⟩
  have q2 := Post.bind (RP := rpE (wd X w)) q1
  generalize fb e p = ra at q2 ⊢
  cases ra with
  | bad => exact q2
  | exc x e1 p1 => exact q2
  | ok dy e1 p1 =>
    intro G1 y H2 s1 R1 hy
    obtain ⟨G2, dy2, e2, p2, s2, R2, hy2, q3⟩ := q2 G1 y H2 s1 R1 hy
    cases hg : g dx dy2 with
    | none => rw [hg] at q3; exact q3.elim
    | some dz =>
      rw [hg] at q3
      refine l w G2 H2 x y dx dy2 dz _ R2.sub R2.base.pen.1 (hx.mono s2) (.inl hy2) hg fun G3 H3 z al hz => ?_
      obtain ⟨R3, s3⟩ := R2.alloc' al
      cases dz with
      | bl k =>
        cases hz
        refine ⟨k, rfl, ?_⟩
        cases k with
        | false => exact q3 G3 _ H3 s3 R3 (.bl _)
        | true =>
          refine ⟨w, G3, e2, p2, R3, ?_⟩
          have q4 := Post.bind (RP := rpQ (wd X w)) (q3.mono s3)
          generalize fc e2 p2 = rc at q4 ⊢
          cases rc with
          | bad => exact q4
          | exc x e1 p1 => exact q4
          | ok dw e4 p4 =>
            intro G4 u H4 s4 R4 hu
            obtain ⟨G5, dw2, e5, p5, s5, R5, hu5, q5⟩ := q4 G4 u H4 s4 R4 hu
            cases hg2 : g' dy2 dw2 with
            | none => rw [hg2] at q5; exact q5.elim
            | some dz2 =>
              rw [hg2] at q5
              refine l' w G5 H4 y u dy2 dw2 dz2 Q R5.sub R5.base.pen.1 (hy2.mono (s3.trans s5)) hu5 hg2 fun G6 H6 v6 al6 hv6 => ?_
              obtain ⟨R6, s6⟩ := R5.alloc' al6
              exact q5 G6 v6 H6 s6 R6 hv6
      | _ => exact q3.elim
theorem de_chain {op op' : CmpOp} {r r' : R2} {g g' : D → D → Option D} {c : Expr} {fc : EM} (ho : OpR X (compareOp op) r) (l : Lift2 X r g) (ho' : OpR X (compareOp op') r') (l' : Lift2 X r' g') (ha : DE X WW a fa) (hb : DE X WW b fb) (hc : DQ X WW c fc)
    (hm : lastMarks [op, op'] [b, c] = false := by with_unfolding_all rfl) : DE X WW (.Compare a [op, op'] [b, c] pos) (eChain g g' fa fb fc) := PEw (pe_chain ho ho' ha hb hc hm) (chain_w l l')
theorem dt_chain {op op' : CmpOp} {r r' : R2} {g g' : D → D → Option D} {c : Expr} {fc : EM} (ho : OpR X (compareOp op) r) (l : Lift2 X r g) (ho' : OpR X (compareOp op') r') (l' : Lift2 X r' g') (ha : DE X WW a fa) (hb : DE X WW b fb) (hc : DQ X WW c fc)
    (hm : lastMarks [op, op'] [b, c] = false := by with_unfolding_all rfl) : DT X WW (.Compare a [op, op'] [b, c] pos) (tmB (eChain g g' fa fb fc)) := PTw (pt_chain ho ho' ha hb hc hm) (tb_w (chain_w l l'))
def negD : D → Option D
  | .int i => some (.int (-i))
  | _ => none
def eUn (g : D → Option D) (f : EM) : EM := fun e p => (f e p).bind fun d e p => optR (g d) e p
theorem de_neg (h : DE X WW a fa) : DE X WW (.UnaryOp .USub a pos) (eUn negD fa) := PEw (pe_un un_neg h) fun σ H Q q =>
  (ee_w q).imp fun v H1 ⟨w, G, d, e, p, r, hv, q1⟩ => by
    cases d with
    | int i =>
      cases hv
      exact ⟨i, rfl, q1 G _ H1 (Sub.refl _) r (.int _)⟩
    | _ => exact q1.elim
end
end Pd

namespace Pd
open PySem PySem.Spec L2
section
variable {X : Cx} {WW : WX} {a b : Expr} {es : List Expr} {pos : Pos} {ta tb : TM} {fa fb : EM} {fs : AM}
def aNil : AM := fun e p => .ok [] e p
def aCons (f : EM) (r : AM) : AM := fun e p => (f e p).bind fun d e p => (r e p).bind fun ds e p => .ok (d :: ds) e p
theorem da_nil : DA X WW [] aNil := PAw pa_nil fun σ H Q ⟨w, G, e, p, r, q⟩ => q G [] H (Sub.refl _) r .nil
theorem da_cons (ha : DE X WW a fa) (hr : DA X WW es fs) (hs : starEach (a :: es) X.env = (false, eval a X.env) :: starEach es X.env := by rfl) : DA X WW (a :: es) (aCons fa fs) := PAw (pa_cons ha hr hs) fun σ H Q ⟨w, G, e, p, r, q⟩ => by
  refine ⟨w, G, e, p, r, ?_⟩
  have q1 := Post.bind (RP := rpE (wd X w)) q
  generalize fa e p = ra at q1 ⊢
  cases ra with
  | bad => exact q1
  | exc x e1 p1 => exact q1
  | ok d e1 p1 =>
    intro G1 x H1 s1 R1 hx
    obtain ⟨G2, d2, e2, p2, s2, R2, hx2, q2⟩ := q1 G1 x H1 s1 R1 hx
    refine ⟨w, G2, e2, p2, R2, ?_⟩
    have q3 := Post.bind (RP := rpA (wd X w)) q2
    generalize fs e2 p2 = rb at q3 ⊢
    cases rb with
    | bad => exact q3
    | exc x e1 p1 => exact q3
    | ok dy e3 p3 =>
      intro G3 y H3 s3 R3 hy
      obtain ⟨G4, d4, e4, p4, s4, R4, hy4, q4⟩ := q3 G3 y H3 s3 R3 hy
      exact q4 G4 _ H3 (Sub.refl _) R4 (.cons (hx2.mono s4) hy4)
theorem af_w {k : List D → Ev → Pen → Res (List D)} {σ : L2.St} {H : Hp} {Q : VK} (q : tF X WW (fun e p => (fs e p).bind k) σ H Q) :
    tA X WW fs σ H fun v H1 => ∃ w G d e p, R (wd X w) G e p σ H1 ∧ RepsW (wd X w) G v d ∧ PostF (wd X w) WW σ Q G (k d e p) := by
  obtain ⟨w, G, e, p, r, q⟩ := q
  refine ⟨w, G, e, p, r, ?_⟩
  have q1 := Post.bindF (RP := rpA (wd X w)) q
  generalize fs e p = ra at q1 ⊢
  cases ra with
  | bad => exact q1
  | exc x e1 p1 => exact q1
  | ok d e1 p1 =>
    intro G1 x H1 s1 R1 hx
    obtain ⟨G2, d2, e2, p2, s2, R2, hx2, q2⟩ := q1 G1 x H1 s1 R1 hx
    exact ⟨w, G2, d2, e2, p2, R2, hx2, q2⟩
theorem qf_w {k : D → Ev → Pen → Res (List D)} {σ : L2.St} {H : Hp} {Q : VK} (q : tF X WW (fun e p => (fa e p).bind k) σ H Q) :
    tQ X WW fa σ H fun v H1 => ∃ w G d e p, R (wd X w) G e p σ H1 ∧ RepQ (wd X w) G H1 v d ∧ PostF (wd X w) WW σ Q G (k d e p) := by
  obtain ⟨w, G, e, p, r, q⟩ := q
  refine ⟨w, G, e, p, r, ?_⟩
  have q1 := Post.bindF (RP := rpQ (wd X w)) q
  generalize fa e p = ra at q1 ⊢
  cases ra with
  | bad => exact q1
  | exc x e1 p1 => exact q1
  | ok d e1 p1 =>
    intro G1 x H1 s1 R1 hx
    obtain ⟨G2, d2, e2, p2, s2, R2, hx2, q2⟩ := q1 G1 x H1 s1 R1 hx
    exact ⟨w, G2, d2, e2, p2, R2, hx2, q2⟩
def eTup (f : AM) : EM := fun e p => (f e p).bind fun ds e p => if small ds.length then .ok (.tup ds) e p else .bad
def fLst (f : AM) : AM := fun e p => (f e p).bind fun ds e p => if small ds.length then .ok ds e p else .bad
theorem de_tup {x1} (h : DA X WW es fs) : DE X WW (.Tuple es x1 pos) (eTup fs) := PEw (pe_tup h) fun σ H Q q =>
  (ea_w q).imp fun v H1 ⟨w, G, d, e, p, r, hv, q1⟩ => by
    split at q1
    · rename_i hs
      refine ⟨by rw [hv.length]; exact small.ok hs, fun t ht => ?_⟩
      exact q1 _ _ _ (Sub.new (r.base.free ht).2.1) (r.alloc ht) (.tup upd_same (hv.mono (Sub.new (r.base.free ht).2.1)))
    · exact q1.elim
theorem df_lst (h : DA X WW es fs) : DF X WW (.List es pos) (fLst fs) := PEw (pe_lst h) fun σ H Q q =>
  (af_w q).imp fun v H1 ⟨w, G, d, e, p, r, hv, q1⟩ => by
    split at q1
    · rename_i hs
      exact ⟨by rw [hv.length]; exact small.ok hs, fun t ht => q1 G t v H1 (Sub.refl _) r ht hv⟩
    · exact q1.elim

def ixD : D → D → Option D
  | .lst xs, .int i => atI xs i
  | .tup xs, .int i => atI xs i
  | .str z, .int i => if small z.length then (atI z.cps.toList i).map fun c => .str ⟨#[c]⟩ else none
  | _, _ => none
theorem Reps.atI {K : PySem.W.Frag} {mg : Str → Option Value} {pa : Addr} {G : Hp} {vs : List V} {ds : List D} {i : Int} {d : D} (r : Reps K mg pa G vs ds) (h : L2.atI ds i = some d) : ∃ v, L2.atI vs i = some v ∧ Rep K mg pa G v d := by
  unfold L2.atI at h ⊢
  rw [r.length]
  cases hx : ixN ds.length i with
  | none => rw [hx] at h; cases h
  | some j =>
    rw [hx] at h
    exact r.get h
theorem ix_core {w : Wl} {G H : Hp} {x y : V} {dx dy dz : D} {Q : VK} (s : Sub G H) (hx : RepQ (wd X w) G H x dx) (hy : RepQ (wd X w) G H y dy) (hz : ixD dx dy = some dz) (q : ∀ v, RepW (wd X w) G v dz → Q v H) : rIx X.K x y H Q := by
  unfold ixD at hz
  split at hz
  · rename_i xs i
    cases hy.int
    obtain ⟨a, vs, rfl, h1, h2⟩ := hx.lst s
    obtain ⟨v, h3, h4⟩ := h2.atI hz
    exact .inl ⟨a, vs, i, v, rfl, rfl, SqL.of h1, h3, q v h4⟩
  · rename_i xs i
    cases hy.int
    obtain ⟨a, vs, rfl, h1, h2⟩ := hx.tup s
    obtain ⟨v, h3, h4⟩ := h2.atI hz
    exact .inr (.inl ⟨a, vs, i, v, rfl, rfl, s.t h1, h3, q v h4⟩)
  · rename_i z i
    cases hy.int
    cases hx.str
    split at hz
    · rename_i hs
      cases hc : L2.atI z.cps.toList i with
      | none => rw [hc] at hz; cases hz
      | some c =>
        rw [hc] at hz
        cases hz
        exact .inr (.inr ⟨z, i, c, rfl, rfl, small.ok hs, hc, q _ (.str _)⟩)
    · cases hz
  · cases hz
theorem l_ix : Lift2 X (rIx X.K) ixD := fun w G H x y dx dy dz Q s hpa hx hy hz q => ix_core s (.inl hx) hy hz fun v hv => q G H v al0 hv
theorem de_ix (ha : DE X WW a fa) (hb : DQ X WW b fb) (hs : PlainIx b := by intro _ _; rfl) : DE X WW (.Subscript a b pos) (eBin ixD fa fb) := PEw (pe_ix ix_seq ha hb hs) (bin_w l_ix)
def eIxV (j : Nat) (fb : EM) : EM := fun e p => match e[j]? with
  | some (some _) => (fb e p).bind fun y e p => match e[j]? with
    | some (some (.v d)) => optR (ixD d y) e p
    | some (some (.own xs)) => optR (ixD (.lst xs) y) e p
    | _ => .bad
  | _ => .bad
theorem R.has {W : Wd} {G H : Hp} {e : Ev} {p : Pen} {σ : L2.St} (r : R W G e p σ H) {i : Nat} {sl : Sl} (h : e[i]? = some (some sl)) : ∃ v, σ[i]? = some (some v) := by
  cases sl with
  | v d =>
    obtain ⟨v, h1, _⟩ := r.getV h
    exact ⟨v, h1⟩
  | own xs =>
    obtain ⟨a, vs, h1, _⟩ := r.getOwn h
    exact ⟨_, h1⟩
  | own2 xs =>
    obtain ⟨fps, h1, _⟩ := r.sls
    obtain ⟨s, fp, q1, _, q3⟩ := h1.get h
    cases q3 with
    | lis2 _ _ => exact ⟨_, q1⟩
  | ins c fs =>
    obtain ⟨fps, h1, _⟩ := r.sls
    obtain ⟨s, fp, q1, _, q3⟩ := h1.get h
    cases q3 with
    | ins _ _ _ _ => exact ⟨_, q1⟩
  | dk fs =>
    obtain ⟨fps, h1, _⟩ := r.sls
    obtain ⟨s, fp, q1, _, q3⟩ := h1.get h
    cases q3 with
    | dk _ _ _ => exact ⟨_, q1⟩
  | dt fs =>
    obtain ⟨fps, h1, _⟩ := r.sls
    obtain ⟨s, fp, q1, _, q3⟩ := h1.get h
    cases q3 with
    | dt _ _ _ => exact ⟨_, q1⟩
theorem de_ixV {x : Str} {xp : Pos} (j : Nat) (hb : DE X WW b fb) (hN : X.N[j]? = some x := by rfl) (hv : Vis X.env.scope x := by first | exact Or.inl rfl | exact Or.inr (Or.inl rfl) | exact Or.inr (Or.inr rfl)) (hd : (x == ("__debug__" : Str)) = false := by decide)
    (hcd : (x == ("__classdict__" : Str)) = false := by decide) (hs : PlainIx b := by intro _ _; rfl) : DE X WW (.Subscript (.Name x xp) b pos) (eIxV j fb) := PEw (pe_ix ix_seq (pe_var hN hv hd hcd) hb hs) fun σ H Q ⟨w, G, e, p, r, q⟩ => by
  unfold eIxV at q
  split at q
  · rename_i sl hsl
    obtain ⟨v, hvv⟩ := r.has hsl
    refine ⟨v, hvv, (ee_w (ta := fb) ⟨w, G, e, p, r, q⟩).imp fun y H1 ⟨w, G, d, e, p, r, hy, q1⟩ => ?_⟩
    split at q1
    · rename_i dx hx
      obtain ⟨v', h1, h2⟩ := r.getV hx
      rw [hvv] at h1
      cases h1
      cases hz : ixD dx d with
      | none => rw [hz] at q1; exact q1.elim
      | some dz =>
        rw [hz] at q1
        exact ix_core (w := w) r.sub (.inl h2) (.inl hy) hz fun v hv => q1 G v H1 (Sub.refl _) r hv
    · rename_i xs hx
      obtain ⟨a, vs, h1, h2, h3, _⟩ := r.getOwn hx
      rw [hvv] at h1
      cases h1
      cases hz : ixD (.lst xs) d with
      | none => rw [hz] at q1; exact q1.elim
      | some dz =>
        rw [hz] at q1
        exact ix_core (w := w) r.sub (.inr ⟨a, vs, xs, rfl, rfl, h2, h3⟩) (.inl hy) hz fun v hv => q1 G v H1 (Sub.refl _) r hv
    · exact q1.elim
  · exact q.elim

abbrev OM := Ev → Pen → Res (Option Int)
def oNone : OM := fun e p => .ok none e p
def oSome (f : EM) : OM := fun e p => (f e p).bind fun d e p => match d with
  | .int i => .ok (some i) e p
  | _ => .bad
abbrev rpO : Hp → Hp → Option Int → Option Int → Prop := fun _ _ b c => b = c
def tO (X : Cx) (WW : WX) (f : OM) : TO := fun σ H Q => ∃ w G e p, R (wd X w) G e p σ H ∧ Post rpO (wd X w) WW σ Q G (f e p)
abbrev DO (X : Cx) (WW : WX) (o : Option Expr) (f : OM) : Prop := PO X o (tO X WW f)
theorem POw {o : Option Expr} {t t' : TO} (h : PO X o t) (k : ∀ σ H Q, t' σ H Q → t σ H Q) : PO X o t' := ⟨fun pins s σ H Q I q => h.run pins s σ H Q I (k _ _ _ q)⟩
theorem do_none : DO X WW none oNone := POw po_none fun σ H Q ⟨w, G, e, p, r, q⟩ => q G none H (Sub.refl _) r rfl
theorem do_some (h : DE X WW a fa) : DO X WW (some a) (oSome fa) := POw (po_some h) fun σ H Q ⟨w, G, e, p, r, q⟩ => by
  refine ⟨w, G, e, p, r, ?_⟩
  have q1 := Post.bind (RP := rpE (wd X w)) q
  generalize fa e p = ra at q1 ⊢
  cases ra with
  | bad => exact q1
  | exc x e1 p1 => exact q1
  | ok d e1 p1 =>
    intro G1 x H1 s1 R1 hx
    obtain ⟨G2, d2, e2, p2, s2, R2, hx2, q2⟩ := q1 G1 x H1 s1 R1 hx
    cases d2 with
    | int i =>
      cases hx2
      exact ⟨i, rfl, q2 G2 _ H1 (Sub.refl _) R2 rfl⟩
    | _ => exact q2.elim
def cutG {α : Type} (xs : List α) (lo hi : Option Int) : List α := (xs.drop (HT.sIx xs.length 0 lo)).take (HT.sIx xs.length xs.length hi - HT.sIx xs.length 0 lo)
theorem Reps.cut {K : PySem.W.Frag} {mg : Str → Option Value} {pa : Addr} {G : Hp} {vs : List V} {ds : List D} (lo hi : Option Int) (r : Reps K mg pa G vs ds) : Reps K mg pa G (cutV vs lo hi) (cutG ds lo hi) := by
  unfold cutV cutG
  rw [r.length]
  exact (r.drop _).take _
def slD : D → Option Int → Option Int → Option D
  | .lst xs, lo, hi => some (.lst (cutG xs lo hi))
  | .tup xs, lo, hi => some (.tup (cutG xs lo hi))
  | _, _, _ => none
def eSl (f : EM) (lo hi : OM) : EM := fun e p => (f e p).bind fun x e p => (lo e p).bind fun l e p => (hi e p).bind fun h e p => optR (slD x l h) e p
theorem cutG_whole {xs : List D} {lo hi : Option Int} (h : HT.sIx xs.length 0 lo = 0 ∧ HT.sIx xs.length xs.length hi = xs.length) : cutG xs lo hi = xs := by
  unfold cutG
  rw [h.1, h.2]
  simp
theorem de_sl {lo hi : Option Expr} {fl fh : OM} {p2 : Pos} (ha : DE X WW a fa) (hl : DO X WW lo fl) (hh : DO X WW hi fh) : DE X WW (.Subscript a (.Slice lo hi none p2) pos) (eSl fa fl fh) :=
  PEw (pe_slice (SlR.or sl_list sl_tupA) ha hl hh) fun σ H Q q => (ee_w q).imp fun x H1 ⟨w, G, dx, e, p, r, hx, q1⟩ => by
    refine ⟨w, G, e, p, r, ?_⟩
    have q2 := Post.bind (RP := rpO) q1
    generalize fl e p = rl at q2 ⊢
    cases rl with
    | bad => exact q2
    | exc x e1 p1 => exact q2
    | ok l e1 p1 =>
      intro G1 l' H2 s1 R1 hl'
      obtain ⟨G2, l2, e2, p2, s2, R2, hl2, q3⟩ := q2 G1 l' H2 s1 R1 hl'
      subst hl2
      refine ⟨w, G2, e2, p2, R2, ?_⟩
      have q4 := Post.bind (RP := rpO) q3
      generalize fh e2 p2 = rh at q4 ⊢
      cases rh with
      | bad => exact q4
      | exc x e1 p1 => exact q4
      | ok h e3 p3 =>
        intro G3 h' H3 s3 R3 hh'
        obtain ⟨G4, h4, e4, p4, s4, R4, hh4, q5⟩ := q4 G3 h' H3 s3 R3 hh'
        subst hh4
        have hx4 := hx.mono (s2.trans s4)
        unfold slD at q5
        split at q5
        · rename_i xs lo' hi'
          obtain ⟨a, vs, rfl, h1, h2⟩ := RepQ.lst (W := wd X w) R4.sub (.inl hx4)
          refine .inl ⟨a, vs, rfl, SqL.of h1, fun t ht => ?_⟩
          have hn := (R4.base.free ht).2.1
          exact q5 _ _ _ (Sub.new hn) (R4.alloc ht) (.lst upd_same ((h2.cut _ _).mono (Sub.new hn)))
        · rename_i xs lo' hi'
          obtain ⟨a, vs, rfl, h1, h2⟩ := RepQ.tupX (W := wd X w) (H := H3) (.inl hx4)
          have hl := h2.length
          refine .inr ⟨a, vs, rfl, SqT.of (R4.sub _ _ h1), fun hw => ?_, fun _ t ht => ?_⟩
          · refine q5 G4 _ H3 (Sub.refl _) R4 ?_
            rw [hl] at hw
            rw [cutG_whole hw]
            exact .tup h1 h2
          · have hn := (R4.base.free ht).2.1
            exact q5 _ _ _ (Sub.new hn) (R4.alloc ht) (.tup upd_same ((h2.cut _ _).mono (Sub.new hn)))
        · exact q5.elim
def fRev (f : EM) : AM := fun e p => (f e p).bind fun d e p => match d with
  | .lst xs => .ok xs.reverse e p
  | _ => .bad
theorem df_rev {k : Nat} {p1 p2 p3 : Pos} (ha : DQ X WW a fa) : DF X WW (.Subscript a (.Slice none none (some (.UnaryOp .USub (.Constant (.int 1) k p1) p2)) p3) pos) (fRev fa) := PEw (pe_revL ha) fun σ H Q q =>
  (qf_w q).imp fun x H1 ⟨w, G, d, e, p, r, hx, q1⟩ => by
    split at q1
    · rename_i xs
      obtain ⟨a, vs, rfl, h1, h2⟩ := hx.lst r.sub
      exact ⟨a, vs, rfl, SqL.of h1, fun t ht => q1 G t _ H1 (Sub.refl _) r ht h2.reverse⟩
    · exact q1.elim

def LiftC (X : Cx) (r : List V → Hp → VK → Prop) (g : D → Option D) : Prop := ∀ (w : Wl) (G H : Hp) (x : V) (dx dz : D) (Q : VK), Sub G H → RepQ (wd X w) G H x dx → g dx = some dz →
  (∀ G' H' v, Alloc G H G' H' → RepW (wd X w) G' v dz → Q v H') → r [x] H Q
theorem call_w {r : List V → Hp → VK → Prop} {g : D → Option D} (l : LiftC X r g) (σ : L2.St) (H : Hp) (Q : VK) (q : tE X WW (eUn g fa) σ H Q) : tCB r (tCons (tQ X WW fa) tNil) σ H Q :=
  (eq_w q).imp fun x H1 ⟨w, G, d, e, p, r0, hx, q1⟩ => by
    cases hg : g d with
    | none => rw [hg] at q1; exact q1.elim
    | some dz =>
      rw [hg] at q1
      refine l w G H1 x d dz Q r0.sub hx hg fun G2 H2 v al hv => ?_
      obtain ⟨R2, s2⟩ := r0.alloc' al
      exact q1 G2 v H2 s2 R2 hv
theorem de_callB {id : String} {x : Str} {p : Pos} {r : List V → Hp → VK → Prop} {g : D → Option D} (hc : CallR X (.builtin id) r) (l : LiftC X r g) (hg : Gl X x) (hm : X.mg x = none) (hv : bootBuiltins x = some (.builtin id)) (ha : DQ X WW a fa)
    (hn : x ≠ "__name__" := by decide) (hd : (x == ("__debug__" : Str)) = false := by decide) (hs : starEach (a :: []) X.env = (false, eval a X.env) :: starEach [] X.env := by rfl) : DE X WW (.Call (.Name x p) [a] [] pos) (eUn g fa) :=
  PEw (pe_callB hc hg hm hv (pa_cons ha pa_nil hs) (hn := hn) (hdb := hd) (he := hs)) (call_w l)
theorem de_callTy {T : String} {x : Str} {p : Pos} {r : List V → Hp → VK → Prop} {g : D → Option D} (hc : CallR X (.type T) r) (l : LiftC X r g) (hg : Gl X x) (hm : X.mg x = none) (hv : bootBuiltins x = some (.type T)) (ha : DQ X WW a fa)
    (hn : x ≠ "__name__" := by decide) (hd : (x == ("__debug__" : Str)) = false := by decide) (hs : starEach (a :: []) X.env = (false, eval a X.env) :: starEach [] X.env := by rfl) : DE X WW (.Call (.Name x p) [a] [] pos) (eUn g fa) :=
  PEw (pe_callTy hc hg hm hv (pa_cons ha pa_nil hs) (hn := hn) (hdb := hd) (he := hs)) (call_w l)
def lenD : D → Option D
  | .str z => if small z.length then some (.int z.length) else none
  | .tup xs => some (.int xs.length)
  | .lst xs => some (.int xs.length)
  | _ => none
theorem l_len : LiftC X (fun xs H Q => ∃ x n, xs = [x] ∧ LenV X.K x H n ∧ Q (.int n) H) lenD := by
  intro w G H x dx dz Q s hx hz q
  unfold lenD at hz
  split at hz
  · rename_i z
    split at hz
    · rename_i hs
      cases hz
      cases hx.str
      exact ⟨_, z.length, rfl, ⟨small.ok hs, rfl⟩, q G H _ al0 (.int _)⟩
    · cases hz
  · cases hz
    obtain ⟨a, vs, rfl, h1, h2⟩ := hx.tup s
    exact ⟨_, vs.length, rfl, .inr ⟨vs, s.t h1, rfl⟩, by rw [h2.length]; exact q G H _ al0 (.int _)⟩
  · cases hz
    obtain ⟨a, vs, rfl, h1, h2⟩ := hx.lst s
    exact ⟨_, vs.length, rfl, .inl ⟨vs, SqL.of h1, rfl⟩, by rw [h2.length]; exact q G H _ al0 (.int _)⟩
  · cases hz
def tupleD : D → Option D
  | .tup xs => some (.tup xs)
  | .lst xs => some (.tup xs)
  | _ => none
theorem l_tuple : LiftC X (fun xs H Q => ∃ p ys, xs = [.ref p] ∧ ((SqL X.K H p ys ∧ ∀ l, H l = none → Q (.ref l) (upd H l (.tup ys))) ∨ (SqT X.K H p ys ∧ Q (.ref p) H))) tupleD := by
  intro w G H x dx dz Q s hx hz q
  unfold tupleD at hz
  split at hz
  · cases hz
    obtain ⟨a, vs, rfl, h1, h2⟩ := hx.tupX
    exact ⟨a, vs, rfl, .inr ⟨SqT.of (s _ _ h1), q G H _ al0 (.tup h1 h2)⟩⟩
  · cases hz
    obtain ⟨a, vs, rfl, h1, h2⟩ := hx.lst s
    exact ⟨a, vs, rfl, .inl ⟨SqL.of h1, fun t ht => q _ _ _ (alN ht) (.tup upd_same (h2.mono (Sub.new (s.fresh ht))))⟩⟩
  · cases hz
def absD : D → Option D
  | .int i => some (.int (if i < 0 then -i else i))
  | _ => none
theorem l_abs : LiftC X (fun xs H Q => ∃ i, xs = [.int i] ∧ Q (.int (if i < 0 then -i else i)) H) absD := by
  intro w G H x dx dz Q s hx hz q
  unfold absD at hz
  split at hz
  · cases hz
    cases hx.int
    exact ⟨_, rfl, q G H _ al0 (.int _)⟩
  · cases hz
def intD : D → Option D
  | .int i => some (.int i)
  | .bl k => some (.int (if k then 1 else 0))
  | _ => none
theorem RepQ.bl {W : Wd} {G H : Hp} {v : V} {i : Bool} (h : RepQ W G H v (.bl i)) : v = .bl i := by
  rcases h with h | ⟨a, vs, ds, _, h, _⟩
  · cases h
    rfl
  · cases h
theorem l_int : LiftC X (fun xs H Q => (∃ i, xs = [.int i] ∧ Q (.int i) H) ∨ ∃ k, xs = [.bl k] ∧ Q (.int (if k then 1 else 0)) H) intD := by
  intro w G H x dx dz Q s hx hz q
  unfold intD at hz
  split at hz
  · cases hz
    cases hx.int
    exact .inl ⟨_, rfl, q G H _ al0 (.int _)⟩
  · cases hz
    cases hx.bl
    exact .inr ⟨_, rfl, q G H _ al0 (.int _)⟩
  · cases hz
def ints? : List D → Option (List Int)
  | [] => some []
  | .int i :: r => (ints? r).map (i :: ·)
  | _ => none
def bools? : List D → Option (List Bool)
  | [] => some []
  | .bl i :: r => (bools? r).map (i :: ·)
  | _ => none
theorem ints?_is : ∀ {ds : List D} {ns : List Int}, ints? ds = some ns → ds = ns.map D.int
  | [], _, h => by cases h; rfl
  | .int i :: r, ns, h => by
    unfold ints? at h
    cases q : ints? r with
    | none => rw [q] at h; cases h
    | some ms =>
      rw [q] at h
      cases h
      rw [ints?_is q]
      rfl
  | .non :: _, _, h => by cases h
  | .bl _ :: _, _, h => by cases h
  | .str _ :: _, _, h => by cases h
  | .tup _ :: _, _, h => by cases h
  | .lst _ :: _, _, h => by cases h
  | .obj _ _ :: _, _, h => by cases h
  | .pen :: _, _, h => by cases h
theorem bools?_is : ∀ {ds : List D} {ns : List Bool}, bools? ds = some ns → ds = ns.map D.bl
  | [], _, h => by cases h; rfl
  | .bl i :: r, ns, h => by
    unfold bools? at h
    cases q : bools? r with
    | none => rw [q] at h; cases h
    | some ms =>
      rw [q] at h
      cases h
      rw [bools?_is q]
      rfl
  | .non :: _, _, h => by cases h
  | .int _ :: _, _, h => by cases h
  | .str _ :: _, _, h => by cases h
  | .tup _ :: _, _, h => by cases h
  | .lst _ :: _, _, h => by cases h
  | .obj _ _ :: _, _, h => by cases h
  | .pen :: _, _, h => by cases h
theorem ints?_map (ns : List Int) : ints? (ns.map D.int) = some ns := by
  induction ns with
  | nil => rfl
  | cons n ns ih => simp [ints?, ih]
theorem bools?_map (ns : List Bool) : bools? (ns.map D.bl) = some ns := by
  induction ns with
  | nil => rfl
  | cons n ns ih => simp [bools?, ih]
theorem reps_ints {K : PySem.W.Frag} {mg : Str → Option Value} {pa : Addr} {G : Hp} : ∀ {vs : List V} {ns : List Int}, Reps K mg pa G vs (ns.map D.int) → vs = ns.map V.int
  | _, [], .nil => rfl
  | _, n :: ns, .cons h r => by
    cases h
    rw [reps_ints r]
    rfl
theorem reps_bools {K : PySem.W.Frag} {mg : Str → Option Value} {pa : Addr} {G : Hp} : ∀ {vs : List V} {ns : List Bool}, Reps K mg pa G vs (ns.map D.bl) → vs = ns.map V.bl
  | _, [], .nil => rfl
  | _, n :: ns, .cons h r => by
    cases h
    rw [reps_bools r]
    rfl
def allD : D → Option D
  | .lst xs => (bools? xs).map fun bs => .bl (bs.all id)
  | _ => none
def anyD : D → Option D
  | .lst xs => (bools? xs).map fun bs => .bl (bs.any id)
  | _ => none
theorem bools_of {w : Wl} {G H : Hp} {x : V} {xs : List D} {bs : List Bool} (s : Sub G H) (hx : RepQ (wd X w) G H x (.lst xs)) (h : bools? xs = some bs) : ∃ a, x = .ref a ∧ SqL X.K H a (bs.map V.bl) := by
  obtain ⟨a, vs, rfl, h1, h2⟩ := hx.lst s
  rw [bools?_is h] at h2
  rw [reps_bools h2] at h1
  exact ⟨a, rfl, SqL.of h1⟩
theorem ints_of {w : Wl} {G H : Hp} {x : V} {xs : List D} {bs : List Int} (s : Sub G H) (hx : RepQ (wd X w) G H x (.lst xs)) (h : ints? xs = some bs) : ∃ a, x = .ref a ∧ SqL X.K H a (bs.map V.int) := by
  obtain ⟨a, vs, rfl, h1, h2⟩ := hx.lst s
  rw [ints?_is h] at h2
  rw [reps_ints h2] at h1
  exact ⟨a, rfl, SqL.of h1⟩
theorem l_all : LiftC X (rAll X.K) allD := by
  intro w G H x dx dz Q s hx hz q
  unfold allD at hz
  split at hz
  · rename_i xs
    cases hb : bools? xs with
    | none => rw [hb] at hz; cases hz
    | some bs =>
      rw [hb] at hz
      cases hz
      obtain ⟨a, rfl, h⟩ := bools_of (w := w) s hx hb
      exact ⟨a, bs, rfl, h, q G H _ al0 (.bl _)⟩
  · cases hz
theorem l_any : LiftC X (rAny X.K) anyD := by
  intro w G H x dx dz Q s hx hz q
  unfold anyD at hz
  split at hz
  · rename_i xs
    cases hb : bools? xs with
    | none => rw [hb] at hz; cases hz
    | some bs =>
      rw [hb] at hz
      cases hz
      obtain ⟨a, rfl, h⟩ := bools_of (w := w) s hx hb
      exact ⟨a, bs, rfl, h, q G H _ al0 (.bl _)⟩
  · cases hz
def sumD : D → Option D
  | .lst xs => (ints? xs).map fun ns => .int ns.sum
  | _ => none
theorem l_sum : LiftC X (rSum X.K) sumD := by
  intro w G H x dx dz Q s hx hz q
  unfold sumD at hz
  split at hz
  · rename_i xs
    cases hb : ints? xs with
    | none => rw [hb] at hz; cases hz
    | some bs =>
      rw [hb] at hz
      cases hz
      obtain ⟨a, rfl, h⟩ := ints_of (w := w) s hx hb
      exact ⟨a, bs, rfl, h, q G H _ al0 (.int _)⟩
  · cases hz
def maxL : List Int → Option Int
  | [] => none
  | x :: r => match maxL r with
    | none => some x
    | some y => some (if y < x then x else y)
def minL : List Int → Option Int
  | [] => none
  | x :: r => match minL r with
    | none => some x
    | some y => some (if x < y then x else y)
theorem maxL_is : ∀ {ns : List Int} {m : Int}, maxL ns = some m → m ∈ ns ∧ ∀ y ∈ ns, y ≤ m
  | [], _, h => by cases h
  | x :: r, m, h => by
    unfold maxL at h
    cases q : maxL r with
    | none =>
      rw [q] at h
      cases h
      have : r = [] := by
        cases r with
        | nil => rfl
        | cons y r =>
          unfold maxL at q
          split at q <;> cases q
      subst this
      simp
    | some y =>
      rw [q] at h
      cases h
      obtain ⟨h1, h2⟩ := maxL_is q
      split
      · rename_i hlt
        exact ⟨by simp, fun z hz => by
          rcases List.mem_cons.mp hz with rfl | hz
          · omega
          · have := h2 z hz
            omega⟩
      · rename_i hlt
        exact ⟨by simp [h1], fun z hz => by
          rcases List.mem_cons.mp hz with rfl | hz
          · omega
          · exact h2 z hz⟩
theorem minL_is : ∀ {ns : List Int} {m : Int}, minL ns = some m → m ∈ ns ∧ ∀ y ∈ ns, m ≤ y
  | [], _, h => by cases h
  | x :: r, m, h => by
    unfold minL at h
    cases q : minL r with
    | none =>
      rw [q] at h
      cases h
      have : r = [] := by
        cases r with
        | nil => rfl
        | cons y r =>
          unfold minL at q
          split at q <;> cases q
      subst this
      simp
    | some y =>
      rw [q] at h
      cases h
      obtain ⟨h1, h2⟩ := minL_is q
      split
      · rename_i hlt
        exact ⟨by simp, fun z hz => by
          rcases List.mem_cons.mp hz with rfl | hz
          · omega
          · have := h2 z hz
            omega⟩
      · rename_i hlt
        exact ⟨by simp [h1], fun z hz => by
          rcases List.mem_cons.mp hz with rfl | hz
          · omega
          · exact h2 z hz⟩
def maxD : D → Option D
  | .lst xs => ((ints? xs).bind maxL).map .int
  | _ => none
def minD : D → Option D
  | .lst xs => ((ints? xs).bind minL).map .int
  | _ => none
theorem l_max : LiftC X (rMax X.K) maxD := by
  intro w G H x dx dz Q s hx hz q
  unfold maxD at hz
  split at hz
  · rename_i xs
    cases hb : ints? xs with
    | none => rw [hb] at hz; cases hz
    | some bs =>
      rw [hb] at hz
      cases hm : maxL bs with
      | none => simp [hm] at hz
      | some m =>
        simp [hm] at hz
        subst hz
        obtain ⟨a, rfl, h⟩ := ints_of (w := w) s hx hb
        obtain ⟨m1, m2⟩ := maxL_is hm
        refine ⟨a, bs, rfl, h, List.length_pos_of_mem m1, fun k k1 k2 => ?_⟩
        have : k = m := by
          have := m2 k k1
          have := k2 m m1
          omega
        subst this
        exact q G H _ al0 (.int _)
  · cases hz
theorem l_min : LiftC X (rMin X.K) minD := by
  intro w G H x dx dz Q s hx hz q
  unfold minD at hz
  split at hz
  · rename_i xs
    cases hb : ints? xs with
    | none => rw [hb] at hz; cases hz
    | some bs =>
      rw [hb] at hz
      cases hm : minL bs with
      | none => simp [hm] at hz
      | some m =>
        simp [hm] at hz
        subst hz
        obtain ⟨a, rfl, h⟩ := ints_of (w := w) s hx hb
        obtain ⟨m1, m2⟩ := minL_is hm
        refine ⟨a, bs, rfl, h, List.length_pos_of_mem m1, fun k k1 k2 => ?_⟩
        have : k = m := by
          have := m2 k k1
          have := k2 m m1
          omega
        subst this
        exact q G H _ al0 (.int _)
  · cases hz
def fList (f : EM) : AM := fun e p => (f e p).bind fun d e p => match d with
  | .lst xs => .ok xs e p
  | .tup xs => .ok xs e p
  | _ => .bad
theorem df_list {x : Str} {p : Pos} (hg : Gl X x) (hm : X.mg x = none) (hv : bootBuiltins x = some (.type "list")) (ha : DQ X WW a fa)
    (hn : x ≠ "__name__" := by decide) (hd : (x == ("__debug__" : Str)) = false := by decide) (hs : starEach (a :: []) X.env = (false, eval a X.env) :: starEach [] X.env := by rfl) : DF X WW (.Call (.Name x p) [a] [] pos) (fList fa) :=
  PEw (pe_callTy call_list_of hg hm hv (pa_cons ha pa_nil hs) (hn := hn) (hdb := hd) (he := hs)) fun σ H Q q => (qf_w q).imp fun x H1 ⟨w, G, d, e, p, r, hx, q1⟩ => by
    split at q1
    · obtain ⟨a, vs, rfl, h1, h2⟩ := hx.lst r.sub
      exact ⟨a, vs, rfl, .inl (SqL.of h1), fun t ht => q1 G t _ H1 (Sub.refl _) r ht h2⟩
    · obtain ⟨a, vs, rfl, h1, h2⟩ := hx.tup r.sub
      exact ⟨a, vs, rfl, .inr (r.sub.t h1), fun t ht => q1 G t _ H1 (Sub.refl _) r ht h2⟩
    · exact q1.elim
end
end Pd

namespace Pd
open PySem PySem.Spec L2

def spF (K : PySem.W.Frag) (mg : Str → Option Value) (n : Nat) (F : Fn) : Sp := fun vs H Q E => vs.length = n ∧ ∃ pa G p ds, Sub G H ∧ PenAt pa p G H ∧ (∀ a ps, G a ≠ some (.tbl ps)) ∧ LamX.Tabs tabsT H ∧ Reps K mg pa G vs ds ∧
  match F ds p with
  | .ok d p' => ∀ G' v H', Base ⟨K, mg, pa, noTab H, G, 0⟩ G' p' H' → Rep K mg pa G' v d → Q v H'
  | .exc x p' => ∀ G' cls dd H', Base ⟨K, mg, pa, noTab H, G, 0⟩ G' p' H' → XRep ⟨K, mg, pa, noTab H, G, 0⟩ G' cls dd x → E cls dd H'
  | .bad => False
section
variable {W : Wd} {G G' H H' : Hp} {e : Ev} {p p' : Pen} {σ : L2.St}
def Ob (o : HO) : Prop := (∀ ps, o ≠ .tbl ps) ∧ ∀ x, o ≠ .own x
theorem ob_lst (xs : List V) : Ob (.lst xs) := ⟨(fun _ z => by cases z), (fun _ z => by cases z)⟩
theorem SlRs.isL {fps : List (List Addr)} (hh : SlRs W G H σ e fps) : ∀ a ∈ fps.flatten, ∃ o, H a = some o ∧ Ob o := by
  induction hh with
  | nil => intro c hc; simp at hc
  | cons q _ ih =>
    intro c hc
    rw [List.flatten_cons, List.mem_append] at hc
    rcases hc with hc | hc
    · cases q with
      | emp => simp at hc
      | val _ => simp at hc
      | lis ha _ =>
        obtain rfl := List.mem_singleton.mp hc
        exact ⟨_, ha, ob_lst _⟩
      | lis2 ha hr =>
        rcases List.mem_cons.mp hc with rfl | hc
        · exact ⟨_, ha, ob_lst _⟩
        · obtain ⟨vs, q⟩ := hr.isL c hc
          exact ⟨_, q, ob_lst _⟩
      | ins _ ha _ _ | dk ha _ _ | dt ha _ _ =>
        obtain rfl := List.mem_singleton.mp hc
        exact ⟨_, ha, (fun _ z => by cases z), (fun _ z => by cases z)⟩
    · exact ih c hc
theorem R.after (r : R W G e p σ H) (b : Base ⟨W.K, W.mg, W.pa, noTab H, G, 0⟩ G' p' H') : R W G' e p' σ H' ∧ Sub G G' := by
  obtain ⟨fps, h1, h2, h3⟩ := r.sls
  have s : Sub G G' := b.g0
  refine ⟨⟨⟨b.sub, r.base.g0.trans s, fun a ha => ?_, fun a o ha hp ht => b.kept a o (noTab_of (r.base.kept a o ha hp ht) ht) hp ht, b.gt, r.base.nt, b.tab, b.pen⟩, fps, h1.mono s fun a ha o ho => ?_, h2, fun a ha => ?_⟩, s⟩
  · rcases b.new a ha with q | q
    · exact r.base.new a q
    · refine .inr ?_
      cases z : W.B a with
      | none => rfl
      | some o =>
        have nt : ∀ ps, o ≠ .tbl ps := fun ps e => r.base.nt a ps (by rw [z, e])
        by_cases hp : a = W.pa
        · obtain ⟨_, ca, _, h⟩ := r.base.pen
          rw [hp] at q
          have q : noTab H W.pa = none := q
          rw [noTab_of h (fun _ z => by cases z)] at q
          cases q
        · have q : noTab H a = none := q
          rw [noTab_of (r.base.kept a o z hp nt) nt] at q
          cases q
  · obtain ⟨o', q, oq⟩ := h1.isL a ha
    obtain ⟨_, _, q3⟩ := h3 a ha
    have nt : ∀ ps, o ≠ .tbl ps := fun ps z => by
      rw [ho] at q
      cases q
      exact oq.1 ps z
    exact b.kept a o (noTab_of ho nt) q3 nt
  · obtain ⟨q1, q2, q3⟩ := h3 a ha
    refine ⟨?_, q2, q3⟩
    cases z : G' a with
    | none => rfl
    | some o =>
      rcases b.new a (by rw [z]; exact fun z => nomatch z) with q | q
      · exact absurd q1 q
      · obtain ⟨o', q4, oq⟩ := h1.isL a ha
        have q : noTab H a = none := q
        rw [noTab_of q4 oq.1] at q
        cases q
end
section
variable {X : Cx} {WW : WX} {a b : Expr} {es : List Expr} {pos : Pos} {ta tb : TM} {fa fb : EM} {fs : AM}
def eCall (F : Fn) (fs : AM) (dds : List D) : EM := fun e p => (fs e p).bind fun ds e p => match F (ds ++ dds) p with
  | .ok d p' => .ok d e p'
  | .exc x p' => .exc x e p'
  | .bad => .bad
theorem spF_of {w : Wl} {G H : Hp} {e : Ev} {p : Pen} {σ : L2.St} {vs : List V} {ds : List D} {n : Nat} {F : Fn} {Q : VK} (r : R (wd X w) G e p σ H) (hv : RepsW (wd X w) G vs ds) (hn : vs.length = n)
    (q : Post (rpE (wd X w)) (wd X w) WW σ Q G (match F ds p with | .ok d p' => .ok d e p' | .exc x p' => .exc x e p' | .bad => .bad)) : spF X.K X.mg n F vs H Q (fun cls d H => WW cls d σ H) := by
  refine ⟨hn, w.pa, G, p, ds, r.sub, r.base.pen, r.base.gt, r.base.tab, hv, ?_⟩
  cases hF : F ds p with
  | ok d p' =>
    rw [hF] at q
    exact fun G' v H' b hr => by
      obtain ⟨r', s⟩ := r.after b
      exact q G' v H' s r' hr
  | exc x p' =>
    rw [hF] at q
    exact fun G' cls dd H' b hr => by
      obtain ⟨r', s⟩ := r.after b
      exact q G' cls dd H' s r' hr
  | bad => rw [hF] at q; exact q
theorem de_call {k : Nat} {f : Addr} {fd : FuncData} {ps : List Str} {n : Nat} {F : Fn} {dvs : List V} {ds : List Value} {dds : List D} {x : Str} {xp : Pos} (hF : FnOk X.prog X.w X.K X.mg X.base (L2.CX X.prog X.w) k f fd ps (spF X.K X.mg n F)) (hr : Room k X.A)
    (hg : Gl X x) (hm : X.mg x = some (.ref f)) (hk : PySem.W.keepIn X.K (.ref f) = true) (hb : Binds X.K fd ps ds) (hd : Vals dvs ds) (hdd : ∀ K mg pa G, Reps K mg pa G dvs dds) (tk : Takes X WW) (ha : DA X WW (a :: es) fs) (hn : ∀ e p ds e' p', fs e p = .ok ds e' p' → ds.length + dds.length = n)
    (hdb : (x == ("__debug__" : Str)) = false := by decide) (he : starEach (a :: es) X.env = (false, eval a X.env) :: starEach es X.env := by rfl) (hpl : (backTo pos (starEach es X.env)).any (·.1) = false := by rfl) :
    DE X WW (.Call (.Name x xp) (a :: es) [] pos) (eCall F fs dds) := PEw (pe_callSD hF hr hg hm hk hb hd (fun σ => passAt tk σ) ha hdb he hpl) fun σ H Q q => by
  obtain ⟨w, G, e, p, r, q⟩ := q
  refine ⟨w, G, e, p, r, ?_⟩
  have q1 := Post.bind (RP := rpA (wd X w)) q
  cases hf : fs e p with
  | bad => rw [hf] at q1; exact q1
  | exc x e1 p1 => rw [hf] at q1; exact q1
  | ok d e1 p1 =>
    have hl := hn _ _ _ _ _ hf
    unfold eCall at q
    rw [hf] at q
    intro G1 vs H1 s1 R1 hv
    have hv2 := hv.append (hdd X.K X.mg w.pa G1)
    exact spF_of R1 hv2 (by rw [hv2.length, List.length_append]; exact hl) (Post.mono q s1)
theorem ln_nil : ∀ e p ds e' p', aNil e p = .ok ds e' p' → ds.length = 0 := fun e p ds e' p' h => by
  cases h
  rfl
theorem ln_cons {n : Nat} (h : ∀ e p ds e' p', fs e p = .ok ds e' p' → ds.length = n) : ∀ e p ds e' p', aCons fa fs e p = .ok ds e' p' → ds.length = n + 1 := fun e p ds e' p' q => by
  unfold aCons at q
  cases h1 : fa e p with
  | bad => rw [h1] at q; cases q
  | exc x e1 p1 => rw [h1] at q; cases q
  | ok d e1 p1 =>
    rw [h1] at q
    have q : (fs e1 p1).bind (fun ds e p => Res.ok (d :: ds) e p) = .ok ds e' p' := q
    cases h2 : fs e1 p1 with
    | bad => rw [h2] at q; cases q
    | exc x e1 p1 => rw [h2] at q; cases q
    | ok d2 e2 p2 =>
      rw [h2] at q
      cases q
      exact congrArg (· + 1) (h _ _ _ _ _ h2)
theorem ln_def {n m : Nat} {dds : List D} (h : ∀ e p ds e' p', fs e p = .ok ds e' p' → ds.length = n) (e : n + dds.length = m) : ∀ e p ds e' p', fs e p = .ok ds e' p' → ds.length + dds.length = m := fun e p ds e' p' q => by rw [h _ _ _ _ _ q]; assumption

def toS {α : Type} (r : Res α) (k : α → Ev → Pen → SR) : SR := match r with
  | .ok a e p => k a e p
  | .exc x e p => .exc x e p
  | .bad => .bad
def sNext : SM := fun e p => .nx e p
def SR.seq (r : SR) (k : Ev → Pen → SR) : SR := match r with
  | .nx e p => k e p
  | r => r
def sSeq (f g : SM) : SM := fun e p => (f e p).seq g
def sRet (f : EM) : SM := fun e p => toS (f e p) fun d e p => .rt d e p
def sRetN : SM := fun e p => .rt .non e p
def sExpr (f : EM) : SM := fun e p => toS (f e p) fun _ e p => .nx e p
def sIf (t : TM) (a b : SM) : SM := fun e p => toS (t e p) fun k e p => if k = true then a e p else b e p
abbrev GM := D → Ev → Option Ev
def gN (i : Nat) : GM := fun d e => some (e.set i (some (.v d)))
def sAsg (f : EM) (g : GM) : SM := fun e p => toS (f e p) fun d e p => match g d e with
  | some e' => .nx e' p
  | none => .bad
def sOwn (f : AM) (i : Nat) : SM := fun e p => toS (f e p) fun xs e p => .nx (e.set i (some (.own xs))) p
theorem es_w {k : D → Ev → Pen → SR} {fa : EM} {σ : L2.St} {H : Hp} {D : Ends} (q : tS X WW (fun e p => toS (fa e p) k) D σ H) :
    tE X WW fa σ H fun v H1 => ∃ w G d e p, R (wd X w) G e p σ H1 ∧ RepW (wd X w) G v d ∧ PostS (wd X w) WW D G (k d e p) := by
  obtain ⟨w, G, e, p, r, q⟩ := q
  have q : PostS (wd X w) WW D G (toS (fa e p) k) := q
  refine ⟨w, G, e, p, r, ?_⟩
  generalize fa e p = ra at q ⊢
  cases ra with
  | bad => exact q
  | exc x e1 p1 => exact fun G1 c d H1 s1 r1 => q G1 c d σ H1 s1 r1
  | ok d e1 p1 => exact fun G1 v H1 s1 r1 hv => ⟨w, G1, d, e1, p1, r1, hv, PostS.mono q s1⟩
theorem ts_w {k : Bool → Ev → Pen → SR} {fa : TM} {σ : L2.St} {H : Hp} {D : Ends} (q : tS X WW (fun e p => toS (fa e p) k) D σ H) :
    tT X WW fa σ H fun c H1 => tS X WW (fun e p => k c e p) D σ H1 := by
  obtain ⟨w, G, e, p, r, q⟩ := q
  have q : PostS (wd X w) WW D G (toS (fa e p) k) := q
  refine ⟨w, G, e, p, r, ?_⟩
  generalize fa e p = ra at q ⊢
  cases ra with
  | bad => exact q
  | exc x e1 p1 => exact fun G1 c d H1 s1 r1 => q G1 c d σ H1 s1 r1
  | ok d e1 p1 =>
    intro G1 v H1 s1 r1 hv
    have hv' : v = d := hv
    subst hv'
    exact ⟨w, G1, e1, p1, r1, PostS.mono q s1⟩
theorem ds_ret (h : DE X WW a fa) : DS X WW (.Return (some a) pos) (sRet fa) := PSw (ps_ret h) fun D σ H q => (es_w q).imp fun v H1 ⟨w, G, d, e, p, r, hv, q1⟩ => q1 G v H1 (Sub.refl _) r.base hv
theorem ds_retN : DS X WW (.Return none pos) sRetN := PSw ps_retN fun D σ H ⟨w, G, e, p, r, q⟩ => q G .non H (Sub.refl _) r.base .non
theorem ds_expr (h : DE X WW a fa) (hs : swapsWith a none pos.line X.env = pure false := by rfl) : DS X WW (.Expr a pos) (sExpr fa) := PSw (ps_expr h hs) fun D σ H q => (es_w q).imp fun v H1 ⟨w, G, d, e, p, r, hv, q1⟩ => q1 G σ H1 (Sub.refl _) r
theorem ds_pass : DS X WW (.Pass pos) sNext := PSw ps_pass fun D σ H ⟨w, G, e, p, r, q⟩ => q G σ H (Sub.refl _) r
def sBreak : SM := fun e p => .bk e p
def sCont : SM := fun e p => .ct e p
theorem ds_break : DS X WW (.Break pos) sBreak := PSw ps_break fun D σ H ⟨w, G, e, p, r, q⟩ => q G σ H (Sub.refl _) r
theorem ds_cont : DS X WW (.Continue pos) sCont := PSw ps_continue fun D σ H ⟨w, G, e, p, r, q⟩ => q G σ H (Sub.refl _) r
theorem dss_nil : DSs X WW [] sNext := PSsw pss_nil fun D σ H ⟨w, G, e, p, r, q⟩ => q G σ H (Sub.refl _) r
theorem dss_one {s : Stmt} {f : SM} (h : DS X WW s f) : DSs X WW [s] f := pss_one h
theorem dss_cons {s : Stmt} {ss : List Stmt} {f g : SM} (h : DS X WW s f) (k : DSs X WW ss g) : DSs X WW (s :: ss) (sSeq f g) := PSsw (pss_cons h k) fun D σ H ⟨w, G, e, p, r, q⟩ => by
  refine ⟨w, G, e, p, r, ?_⟩
  unfold sSeq at q
  generalize f e p = rf at q ⊢
  cases rf with
  | nx e1 p1 => exact fun G1 σ1 H1 s1 r1 => ⟨w, G1, e1, p1, r1, PostS.mono q s1⟩
  | rt d e1 p1 => exact q
  | bk e1 p1 => exact q
  | ct e1 p1 => exact q
  | exc x e1 p1 => exact q
  | bad => exact q
theorem ds_if {c : Expr} {s1 s2 : List Stmt} {f g : SM} (hc : DT X WW c ta) (h1 : DSs X WW s1 f) (h2 : DSs X WW s2 g) : DS X WW (.If c s1 s2 pos) (sIf ta f g) := PSw (ps_if hc h1 h2) fun D σ H q => (ts_w q).imp fun k H1 q1 => by
  cases k with
  | true => exact q1
  | false => exact q1
theorem Reps.inv {K : PySem.W.Frag} {mg : Str → Option Value} {pa : Addr} {G : Hp} {vs : List V} {d : D} {ds : List D} (h : Reps K mg pa G vs (d :: ds)) : ∃ v us, vs = v :: us ∧ Rep K mg pa G v d ∧ Reps K mg pa G us ds := by
  cases h with
  | cons a b => exact ⟨_, _, rfl, a, b⟩
def But (ks : List Nat) (σ σ' : L2.St) : Prop := ∀ vs : List Nat, (∀ k ∈ ks, k ∈ vs) → wipe σ' vs = wipe σ vs
theorem wipe_set_mem {σ : L2.St} {i : Nat} {x : Option V} : ∀ {vs : List Nat}, i ∈ vs → wipe (σ.set i x) vs = wipe σ vs := by
  have comm : ∀ {vs : List Nat} {j : Nat} {y : Option V}, j ∉ vs → wipe (σ.set j y) vs = (wipe σ vs).set j y := by
    intro vs
    induction vs with
    | nil => intro j y _; rfl
    | cons v vs ih =>
      intro j y hj
      unfold wipe
      rw [ih (fun z => hj (List.mem_cons_of_mem _ z))]
      exact List.set_comm _ _ (fun z => hj (by rw [z]; exact List.mem_cons_self))
  intro vs
  induction vs with
  | nil => intro h; cases h
  | cons v vs ih =>
    intro h
    by_cases hm : i ∈ vs
    · unfold wipe
      rw [ih hm]
    · have e : i = v := by
        rcases List.mem_cons.mp h with z | z
        · exact z
        · exact absurd z hm
      subst e
      unfold wipe
      rw [comm hm, List.set_set]
theorem But.refl (ks : List Nat) (σ : L2.St) : But ks σ σ := fun _ _ => rfl
theorem But.trans {ks js : List Nat} {σ σ1 σ2 : L2.St} (a : But ks σ σ1) (b : But js σ1 σ2) : But (ks ++ js) σ σ2 := fun vs h => (b vs fun k hk => h k (List.mem_append_right _ hk)).trans (a vs fun k hk => h k (List.mem_append_left _ hk))
def tG (X : Cx) (ks : List Nat) (g : GM) : TG := fun v σ H Q => ∃ w G e p d, R (wd X w) G e p σ H ∧ RepW (wd X w) G v d ∧ ∃ e', g d e = some e' ∧ ∀ σ', But ks σ σ' → R (wd X w) G e' p σ' H → Q σ' H
abbrev DG (X : Cx) (tg : Expr) (ks : List Nat) (g : GM) : Prop := PG X tg (tG X ks g)
theorem PGw {tg : Expr} {t t' : TG} (h : PG X tg t) (k : ∀ v σ H Q, t' v σ H Q → t v σ H Q) : PG X tg t' := ⟨fun pins s σ H v u Q I r q => h.run pins s σ H v u Q I r (k _ _ _ _ q)⟩
theorem dg_name {i : Nat} {x : Str} (hN : X.N.Nodup) (hi : X.N[i]? = some x) (hx : Loc X.env.scope x := by first | exact Or.inl rfl | exact Or.inr rfl) (hf : X.fn x = true ∨ X.env.scope.names.lookup x = some .local := by first | exact .inl rfl | exact .inr rfl) : DG X (.Name x pos) [i] (gN i) :=
  PGw (pg_name hN hi hx hf) fun v σ H Q ⟨w, G, e, p, d, r, hv, e', he, q⟩ => by
    cases he
    exact q _ (fun vs h => wipe_set_mem (h i List.mem_cons_self)) (r.store i hv)
abbrev GMs := List D → Ev → Option Ev
def gNilD : GMs := fun ds e => match ds with
  | [] => some e
  | _ => none
def gConsD (g : GM) (gs : GMs) : GMs := fun ds e => match ds with
  | d :: r => (g d e).bind fun e => gs r e
  | [] => none
def gT (n : Nat) (gs : GMs) : GM := fun d e => match d with
  | .tup ds => if ds.length = n then gs ds e else none
  | _ => none
def tGs (X : Cx) (ks : List Nat) (gs : GMs) : TGs := fun vs σ H Q => ∃ w G e p ds, R (wd X w) G e p σ H ∧ RepsW (wd X w) G vs ds ∧ ∃ e', gs ds e = some e' ∧ ∀ σ', But ks σ σ' → R (wd X w) G e' p σ' H → Q σ' H
abbrev DGs (X : Cx) (ts : List Expr) (ks : List Nat) (g : GMs) : Prop := PGs X ts (tGs X ks g)
theorem PGsw {tg : List Expr} {t t' : TGs} (h : PGs X tg t) (k : ∀ v σ H Q, t' v σ H Q → t v σ H Q) : PGs X tg t' := ⟨fun pins s σ H v u Q I r q => h.run pins s σ H v u Q I r (k _ _ _ _ q)⟩
theorem dgs_nil : DGs X [] [] gNilD := PGsw pgs_nil fun vs σ H Q ⟨w, G, e, p, ds, r, hv, e', he, q⟩ => by
  cases hv with
  | nil => cases he; exact ⟨rfl, q σ (But.refl _ _) r⟩
  | cons h1 h2 => cases he
theorem dgs_cons {t : Expr} {ts : List Expr} {g : GM} {gs : GMs} {ks js : List Nat} (h1 : DG X t ks g) (h2 : DGs X ts js gs) (hs : (assignEach (t :: ts) X.env).map (·.2) = assign t X.env :: (assignEach ts X.env).map (·.2) := by rfl) : DGs X (t :: ts) (ks ++ js) (gConsD g gs) :=
  PGsw (pgs_cons h1 h2 hs) fun vs σ H Q ⟨w, G, e, p, ds, r, hv, e', he, q⟩ => by
    cases ds with
    | nil => cases he
    | cons d ds =>
      obtain ⟨v, us, rfl, a, b⟩ := hv.inv
      unfold gConsD at he
      cases h3 : g d e with
      | none => simp only [h3] at he; cases he
      | some e1 =>
        simp only [h3] at he
        exact ⟨v, us, rfl, w, G, e, p, d, r, a, e1, h3, fun σ1 b1 r1 => ⟨w, G, e1, p, ds, r1, b, e', he, fun σ2 b2 r2 => q σ2 (b1.trans b2) r2⟩⟩
theorem dg_tup {ts : List Expr} {k n : Nat} {gs : GMs} {ks : List Nat} (hc : X.calm = true) (h : DGs X ts ks gs) (hn : (assignEach ts X.env).length = n := by rfl) (hst : (assignEach ts X.env).findIdx? (·.1) = none := by rfl) : DG X (.Tuple ts k pos) ks (gT n gs) :=
  PGw (pg_tup hc h hn hst) fun v σ H Q ⟨w, G, e, p, d, r, hv, e', he, q⟩ => by
    cases d with
    | tup ds =>
      obtain ⟨a, vs, rfl, h1, h2⟩ := RepQ.tup (W := wd X w) r.sub (.inl hv)
      have he' : (if ds.length = n then gs ds e else none) = some e' := he
      split at he'
      · rename_i hl
        exact ⟨a, vs, rfl, r.sub.t h1, by rw [h2.length]; exact hl, w, G, e, p, ds, r, h2, e', he', q⟩
      · cases he'
    | _ => cases he
theorem ds_asg {tg : Expr} {g : GM} {ks : List Nat} (h : DE X WW a fa) (hg : DG X tg ks g) (hs : swapsWithSole [tg] a pos.line X.env = pure false := by rfl) (hw : swappedStores [tg] a X.env = pure none := by rfl)
    (h1 : (assignEach [tg] X.env).map (·.2) = [assign tg X.env] := by rfl) : DS X WW (.Assign [tg] a pos) (sAsg fa g) := PSw (ps_asg h hg hs hw h1) fun D σ H q => (es_w q).imp fun v H1 ⟨w, G, d, e, p, r, hv, q1⟩ => by
  cases hg : g d e with
  | none => rw [hg] at q1; exact q1.elim
  | some e' =>
    rw [hg] at q1
    exact ⟨w, G, e, p, d, r, hv, e', hg, fun σ' _ r' => q1 G σ' H1 (Sub.refl _) r'⟩
theorem ds_set {i : Nat} {x : Str} {xp : Pos} (hN : X.N.Nodup) (h : DE X WW a fa) (hi : X.N[i]? = some x := by rfl) (hx : Loc X.env.scope x := by first | exact Or.inl rfl | exact Or.inr rfl) (hs : swapsWith a (some (.Name x xp)) pos.line X.env = pure false := by rfl) (hf : X.fn x = true ∨ X.env.scope.names.lookup x = some .local := by first | exact .inl rfl | exact .inr rfl) :
    DS X WW (.Assign [.Name x xp] a pos) (sAsg fa (gN i)) := PSw (ps_set hN hi hx h hs hf) fun D σ H q => (es_w q).imp fun v H1 ⟨w, G, d, e, p, r, hv, q1⟩ => q1 G _ H1 (Sub.refl _) (r.store i hv)
theorem own_w {i : Nat} {ff : AM} (D : Ends) (σ : L2.St) (H : Hp) (q : tS X WW (sOwn ff i) D σ H) : tAsg (tF X WW ff) (gName i) D σ H := by
  obtain ⟨w, G, e, p, r, q⟩ := q
  refine ⟨w, G, e, p, r, ?_⟩
  unfold sOwn at q
  generalize ff e p = ra at q ⊢
  cases ra with
  | bad => exact q
  | exc x e1 p1 => exact fun G1 c d H1 s1 r1 => q G1 c d σ H1 s1 r1
  | ok d e1 p1 => exact fun G1 v vs H1 s1 r1 hn hv => q G1 _ _ s1 (r1.storeOwn i hn hv)
theorem ds_own {i : Nat} {x : Str} {xp : Pos} {ff : AM} (hN : X.N.Nodup) (h : DF X WW a ff) (hi : X.N[i]? = some x := by rfl) (hx : Loc X.env.scope x := by first | exact Or.inl rfl | exact Or.inr rfl) (hs : swapsWith a (some (.Name x xp)) pos.line X.env = pure false := by rfl) (hf : X.fn x = true ∨ X.env.scope.names.lookup x = some .local := by first | exact .inl rfl | exact .inr rfl) :
    DS X WW (.Assign [.Name x xp] a pos) (sOwn ff i) := PSw (ps_set hN hi hx h hs hf) own_w

def sAppend (j : Nat) (f : EM) : SM := fun e p => match e[j]? with
  | some (some (.own _)) => toS (f e p) fun d e p => match e[j]? with
    | some (some (.own xs)) => if small xs.length then .nx (e.set j (some (.own (xs ++ [d])))) p else .bad
    | _ => .bad
  | _ => .bad
theorem ds_append {j : Nat} {x : Str} {xp ap cp : Pos} (h : DE X WW a fa) (hN : X.N[j]? = some x := by rfl) (hv : Vis X.env.scope x := by first | exact Or.inl rfl | exact Or.inr (Or.inl rfl) | exact Or.inr (Or.inr rfl)) (hd : (x == ("__debug__" : Str)) = false := by decide)
    (hcd : (x == ("__classdict__" : Str)) = false := by decide) (hsa : starEach (a :: []) X.env = (false, eval a X.env) :: starEach [] X.env := by rfl)
    (hm : ∀ (t : TE), PE X a t → PE X (.Call (.Attribute (.Name x xp) "append" ap) [a] [] cp) (tBM X.K "list" rAppend (tVar j) (tCons t tNil))) (hs : swapsWith (.Call (.Attribute (.Name x xp) "append" ap) [a] [] cp) none pos.line X.env = pure false := by rfl) :
    DS X WW (.Expr (.Call (.Attribute (.Name x xp) "append" ap) [a] [] cp) pos) (sAppend j fa) := PSw (ps_expr (hm _ h) hs) fun D σ H q => by
  obtain ⟨w, G, e, p, r, q⟩ := q
  unfold sAppend at q
  split at q
  · rename_i xs0 hx0
    obtain ⟨a, vs, h1, h2, h3, g1, g2, g3, _, _⟩ := r.getOwn hx0
    refine ⟨.ref a, h1, .inl ⟨rfl, vs, SqL.of h2⟩, (es_w (fa := fa) ⟨w, G, e, p, r, q⟩).imp fun v H1 ⟨w, G, d, e, p, r, hv, q1⟩ => ?_⟩
    split at q1
    · rename_i xs hx
      obtain ⟨a', vs', k1, k2, k3, _, _, _, k7, _⟩ := r.getOwn hx
      rw [h1] at k1
      cases k1
      split at q1
      · rename_i hsm
        refine ⟨a, vs', v, rfl, rfl, k2, by rw [k3.length]; exact small.lt hsm, ?_⟩
        exact q1 G σ _ (Sub.refl _) (k7 _ _ (k3.append (.cons hv .nil)))
      · exact q1.elim
    · exact q1.elim
  · exact q.elim
end
end Pd

namespace Pd
open PySem PySem.Spec L2 RZ

def WalkD (W : Wd) (G : Hp) (J : It) (ds : List D) : Prop := ∃ (Gd : Hp → Prop) (Y : Nat → Hp → V → Hp → Prop), Walk J ds.length Gd Y ∧ (∀ H, Sub G H → Gd H) ∧
  ∀ i H x H', i < ds.length → Gd H → Y i H x H' → ∃ d, ds[i]? = some d ∧ ∀ G1, Sub G G1 → Sub G1 H → ∃ G2, Alloc G1 H G2 H' ∧ RepW W G2 x d
def tI (X : Cx) (WW : WX) (f : AM) : TI := fun σ H QJ => ∃ w G e p, R (wd X w) G e p σ H ∧
  match f e p with
  | .ok ds e p => ∀ G' J H', Sub G G' → R (wd X w) G' e p σ H' → WalkD (wd X w) G' J ds → QJ J H'
  | .exc x e p => ∀ G' cls dd H', Sub G G' → R (wd X w) G' e p σ H' → XRep (wd X w) G' cls dd x → WW cls dd σ H'
  | .bad => False
abbrev DI (X : Cx) (WW : WX) (tg iter : Expr) (f : AM) : Prop := PI X tg iter (tI X WW f)
theorem PIw {X : Cx} {tg iter : Expr} {t t' : TI} (h : PI X tg iter t) (k : ∀ σ H Q, t' σ H Q → t σ H Q) : PI X tg iter t' := ⟨fun pins s σ H R I q => h.run pins s σ H R I (k _ _ _ q)⟩
section
variable {W : Wd} {G : Hp} {a b : Addr} {vs us : List V} {ds es : List D}
theorem walkD_list (h : G a = some (.lst vs)) (r : RepsW W G vs ds) : WalkD W G (Itl W.K a) ds := by
  have hl := r.length
  refine ⟨_, _, hl ▸ walk_list (K := W.K) (a := a) (xs := vs), fun H s => SqL.of (s _ _ h), fun i H x H' hi hg y => ?_⟩
  obtain ⟨e, y⟩ := y
  subst e
  obtain ⟨d, h1, h2⟩ := r.getV y
  exact ⟨d, h1, fun G1 s1 _ => ⟨G1, al0, h2.mono s1⟩⟩
theorem walkD_tup (h : SqT W.K G a vs) (r : RepsW W G vs ds) : WalkD W G (Itt W.K a) ds := by
  have hl := r.length
  refine ⟨_, _, hl ▸ walk_tup (K := W.K) (a := a) (xs := vs), fun H s => s.t h, fun i H x H' hi hg y => ?_⟩
  obtain ⟨e, y⟩ := y
  subst e
  obtain ⟨d, h1, h2⟩ := r.getV y
  exact ⟨d, h1, fun G1 s1 _ => ⟨G1, al0, h2.mono s1⟩⟩
def rangeD (lo : Int) (n : Nat) : List D := (List.range n).map fun (i : Nat) => D.int (lo + (i : Int))
theorem walkD_range {lo : Int} {n : Nat} : WalkD W G (Itr lo n) (rangeD lo n) := by
  have hl : (rangeD lo n).length = n := by unfold rangeD; simp
  refine ⟨fun _ => True, YFn fun i => .int (lo + i), by rw [hl]; exact walk_range, fun _ _ => trivial, fun i H x H' hi hg y => ?_⟩
  obtain ⟨e, y⟩ := y
  subst e
  subst y
  refine ⟨.int (lo + i), ?_, fun G1 s1 _ => ⟨G1, al0, .int _⟩⟩
  unfold rangeD
  rw [hl] at hi
  simp [hi]
def enumD (ds : List D) : List D := ds.zipIdx.map fun q => .tup [.int (q.2 : Nat), q.1]
theorem walkD_enum (h : G a = some (.lst vs)) (r : RepsW W G vs ds) : WalkD W G (Ite W.K a) (enumD ds) := by
  have hl : vs.length = (enumD ds).length := by rw [r.length]; unfold enumD; simp
  refine ⟨_, _, hl ▸ walk_enum (K := W.K) (a := a) (xs := vs), fun H s => SqL.of (s _ _ h), fun i H x H' hi hg y => ?_⟩
  obtain ⟨T, x1, x2, rfl, hT, rfl, e1, e2⟩ := y
  cases e1
  obtain ⟨d, h1, h2⟩ := r.getV e2
  refine ⟨.tup [.int (i : Nat), d], ?_, fun G1 s1 s2 => ⟨_, alN hT, .tup upd_same (.cons (.int _) (.cons (h2.mono (s1.trans (Sub.new (s2.fresh hT)))) .nil))⟩⟩
  unfold enumD
  simp [h1]
def zipD (ds es : List D) : List D := (ds.zip es).map fun q => .tup [q.1, q.2]
theorem zip_core {i : Nat} {H H' : Hp} {x : V} {xs : List D} (rx : RepsW W G vs ds) (ry : RepsW W G us es) (y : YPair (fun i => vs[i]?) (fun i => us[i]?) i H x H') :
    ∃ d, (zipD ds es)[i]? = some d ∧ ∀ G1, Sub G G1 → Sub G1 H → ∃ G2, Alloc G1 H G2 H' ∧ RepW W G2 x d := by
  obtain ⟨T, x1, x2, rfl, hT, rfl, e1, e2⟩ := y
  obtain ⟨d, h1, h2⟩ := rx.getV e1
  obtain ⟨d', h1', h2'⟩ := ry.getV e2
  refine ⟨.tup [d, d'], ?_, fun G1 s1 s2 => ⟨_, alN hT, ?_⟩⟩
  · unfold zipD
    rw [List.getElem?_map, List.getElem?_zip_eq_some (z := (d, d')) |>.mpr ⟨h1, h1'⟩]
    rfl
  · have sn := s1.trans (Sub.new (o := .tup [x1, x2]) (s2.fresh hT))
    exact .tup upd_same (.cons (h2.mono sn) (.cons (h2'.mono sn) .nil))
theorem walkD_zip (h : G a = some (.lst vs)) (h' : G b = some (.lst us)) (rx : RepsW W G vs ds) (ry : RepsW W G us es) : WalkD W G (Itz W.K a b) (zipD ds es) := by
  have hl : (zipD ds es).length = min vs.length us.length := by rw [rx.length, ry.length]; unfold zipD; simp
  refine ⟨_, _, walk_zip (K := W.K) (a := a) (b := b) (xs := vs) (ys := us) hl, fun H s => ⟨SqL.of (s _ _ h), SqL.of (s _ _ h')⟩, fun i H x H' hi hg y => ?_⟩
  exact zip_core (xs := []) rx ry y
end
theorem walk_zipT {K : PySem.W.Frag} {a b : Addr} {xs ys : List V} {n : Nat} (hn : n = min xs.length ys.length) : Walk (ItzT K a b) n (fun H => SqT K H a xs ∧ SqT K H b ys) (YPair (fun i => xs[i]?) (fun i => ys[i]?)) := by
  subst hn
  refine ⟨fun i H hi q => ?_, fun H q => ?_, fun i H v H' _ q y => ?_⟩
  · have h1 : i < xs.length := by omega
    have h2 : i < ys.length := by omega
    exact ⟨xs, ys, xs[i], ys[i], q.1, q.2, by simp [h1], by simp [h2]⟩
  · exact ⟨xs, ys, q.1, q.2, by omega⟩
  · obtain ⟨T, x, z, h1, h2, h3, h4, h5⟩ := y
    exact ⟨T, x, z, h1, h2, h3, h4 xs q.1, h5 ys q.2⟩
theorem walkD_zipT {W : Wd} {G : Hp} {a b : Addr} {vs us : List V} {ds es : List D} (h : SqT W.K G a vs) (h' : SqT W.K G b us) (rx : RepsW W G vs ds) (ry : RepsW W G us es) : WalkD W G (ItzT W.K a b) (zipD ds es) := by
  have hl : (zipD ds es).length = min vs.length us.length := by rw [rx.length, ry.length]; unfold zipD; simp
  refine ⟨_, _, walk_zipT (K := W.K) (a := a) (b := b) (xs := vs) (ys := us) hl, fun H s => ⟨s.t h, s.t h'⟩, fun i H x H' hi hg y => ?_⟩
  exact zip_core (xs := []) rx ry y

section
variable {X : Cx} {WW : WX} {a b tg : Expr} {es : List Expr} {pos : Pos} {ta tb : TM} {fa fb : EM} {fs : AM}
theorem ei_w {k : D → Ev → Pen → Res (List D)} {fa : EM} {σ : L2.St} {H : Hp} {QJ : It → Hp → Prop} (q : tI X WW (fun e p => (fa e p).bind k) σ H QJ) :
    tE X WW fa σ H fun v H1 => ∃ w G d e p, R (wd X w) G e p σ H1 ∧ RepW (wd X w) G v d ∧
      match k d e p with
      | .ok ds e p => ∀ G' J H', Sub G G' → R (wd X w) G' e p σ H' → WalkD (wd X w) G' J ds → QJ J H'
      | .exc x e p => ∀ G' cls dd H', Sub G G' → R (wd X w) G' e p σ H' → XRep (wd X w) G' cls dd x → WW cls dd σ H'
      | .bad => False := by
  obtain ⟨w, G, e, p, r, q⟩ := q
  refine ⟨w, G, e, p, r, ?_⟩
  cases hf : fa e p with
  | bad => simp only [hf, Res.bind] at q; 
  | exc x e1 p1 => simp only [hf, Res.bind] at q; exact fun G1 c d H1 s1 r1 => q G1 c d H1 s1 r1
  | ok d e1 p1 =>
    simp only [hf, Res.bind] at q
    intro G1 v H1 s1 r1 hv
    refine ⟨w, G1, d, e1, p1, r1, hv, ?_⟩
    cases hk : k d e1 p1 with
    | ok ds e2 p2 => simp only [hk] at q; exact fun G2 J H2 s2 => q G2 J H2 (s1.trans s2)
    | exc x e2 p2 => simp only [hk] at q; exact fun G2 c d H2 s2 => q G2 c d H2 (s1.trans s2)
    | bad => simp only [hk] at q
theorem eai_w {k : List D → Ev → Pen → Res (List D)} {fs : AM} {σ : L2.St} {H : Hp} {QJ : It → Hp → Prop} (q : tI X WW (fun e p => (fs e p).bind k) σ H QJ) :
    tA X WW fs σ H fun v H1 => ∃ w G d e p, R (wd X w) G e p σ H1 ∧ RepsW (wd X w) G v d ∧
      match k d e p with
      | .ok ds e p => ∀ G' J H', Sub G G' → R (wd X w) G' e p σ H' → WalkD (wd X w) G' J ds → QJ J H'
      | .exc x e p => ∀ G' cls dd H', Sub G G' → R (wd X w) G' e p σ H' → XRep (wd X w) G' cls dd x → WW cls dd σ H'
      | .bad => False := by
  obtain ⟨w, G, e, p, r, q⟩ := q
  refine ⟨w, G, e, p, r, ?_⟩
  cases hf : fs e p with
  | bad => simp only [hf, Res.bind] at q; 
  | exc x e1 p1 => simp only [hf, Res.bind] at q; exact fun G1 c d H1 s1 r1 => q G1 c d H1 s1 r1
  | ok d e1 p1 =>
    simp only [hf, Res.bind] at q
    intro G1 v H1 s1 r1 hv
    refine ⟨w, G1, d, e1, p1, r1, hv, ?_⟩
    cases hk : k d e1 p1 with
    | ok ds e2 p2 => simp only [hk] at q; exact fun G2 J H2 s2 => q G2 J H2 (s1.trans s2)
    | exc x e2 p2 => simp only [hk] at q; exact fun G2 c d H2 s2 => q G2 c d H2 (s1.trans s2)
    | bad => simp only [hk] at q
def iSeq (f : EM) : AM := fun e p => (f e p).bind fun d e p => match d with
  | .lst xs => .ok xs e p
  | .tup xs => .ok xs e p
  | _ => .bad
theorem pi_seq2 {l : Expr} {tl : TE} (hl : PE X l tl) : PI X tg l (fun σ H Q => tl σ H fun x H1 => ∃ a, x = .ref a ∧ ((∃ xs, SqL X.K H1 a xs ∧ Q (Itl X.K a) H1) ∨ (∃ xs, SqT X.K H1 a xs ∧ Q (Itt X.K a) H1))) := ⟨fun pins s σ H R I h => by
  apply thn (hl.run pins s σ H _ I h)
  rintro v s1 ⟨x, H1, I1, r1, a, rfl, q⟩
  obtain rfl : v = Value.ref a := r1
  have fr : ∀ b ∈ [s1.heap.objs.size], FpOk X pins H1 b := fun b hb => by
    obtain rfl := List.mem_singleton.mp hb; exact I1.fpOk (Nat.le_refl _) (I1.hok.fresh (Nat.le_refl _))
  rcases q with ⟨xs, hq, q⟩ | ⟨xs, hq, q⟩
  · obtain ⟨its, _, hp, _⟩ := I1.list hq
    exact wpAny_pyIter_list hp.isList ⟨_, _, _, _, H1, rfl, I1.kept (t' := s1.toks) (fun b o e => Heap.get?_push_of_some _ e), turn_list a s1.heap.objs.size, ⟨_, Heap.get?_push_size _ rfl, rfl, rfl⟩, fr, q⟩
  · obtain ⟨its, _, hp, _⟩ := I1.tuple hq
    exact wpAny_pyIter_tuple (items := its.toArray) hp ⟨_, _, _, _, H1, rfl, I1.kept (t' := s1.toks) (fun b o e => Heap.get?_push_of_some _ e), turn_tuple a s1.heap.objs.size, ⟨_, Heap.get?_push_size _ rfl, rfl, rfl⟩, fr, q⟩⟩
theorem di_seq (h : DE X WW a fa) : DI X WW tg a (iSeq fa) := PIw (pi_seq2 h) fun σ H Q q => (ei_w q).imp fun x H1 ⟨w, G, d, e, p, r, hx, q1⟩ => by
  cases d with
  | lst xs =>
    obtain ⟨a, vs, rfl, h1, h2⟩ := RepQ.lst (W := wd X w) r.sub (.inl hx)
    cases hx with
    | lst g1 g2 =>
      exact ⟨a, rfl, .inl ⟨_, SqL.of (r.sub _ _ g1), q1 G _ H1 (Sub.refl _) r (walkD_list (W := wd X w) g1 g2)⟩⟩
  | tup xs =>
    obtain ⟨a, vs, rfl, h1, h2⟩ := RepQ.tup (W := wd X w) r.sub (.inl hx)
    exact ⟨a, rfl, .inr ⟨_, r.sub.t h1, q1 G _ H1 (Sub.refl _) r (walkD_tup (W := wd X w) h1 h2)⟩⟩
  | _ => exact q1.elim
def iRange1 (fs : AM) : AM := fun e p => (fs e p).bind fun ds e p => match ds with
  | [.int n] => if -1000000000 ≤ n ∧ n ≤ 1000000000 then .ok (rangeD 0 n.toNat) e p else .bad
  | _ => .bad
theorem di_range1 {p : Pos} (hg : Gl X "range") (hm : X.mg "range" = none) (ha : DA X WW [a] fs) (hs : starEach [a] X.env = [(false, eval a X.env)] := by rfl) : DI X WW tg (.Call (.Name "range" p) [a] [] pos) (iRange1 fs) :=
  PIw (pi_range1 hg hm ha hs) fun σ H Q q => (eai_w q).imp fun x H1 ⟨w, G, d, e, p, r, hx, q1⟩ => by
    split at q1
    · rename_i ds e' p' hk
      split at hk
      · split at hk
        · rename_i n hn
          cases hk
          obtain ⟨v, us, rfl, a1, a2⟩ := hx.inv
          cases a2
          cases a1
          exact ⟨n, rfl, by omega, by omega, q1 G _ H1 (Sub.refl _) r walkD_range⟩
        · cases hk
      · cases hk
    · rename_i hk
      split at hk
      · split at hk <;> cases hk
      · cases hk
    · exact q1.elim
def iRange2 (fs : AM) : AM := fun e p => (fs e p).bind fun ds e p => match ds with
  | [.int l, .int n] => if (-1000000000 ≤ l ∧ l ≤ 1000000000) ∧ -1000000000 ≤ n ∧ n ≤ 1000000000 then .ok (rangeD l (n - l).toNat) e p else .bad
  | _ => .bad
theorem di_range2 {p : Pos} (hg : Gl X "range") (hm : X.mg "range" = none) (ha : DA X WW [a, b] fs) (hs : starEach [a, b] X.env = [(false, eval a X.env), (false, eval b X.env)] := by rfl) (hs2 : starEach [b] X.env = [(false, eval b X.env)] := by rfl) : DI X WW tg (.Call (.Name "range" p) [a, b] [] pos) (iRange2 fs) :=
  PIw (pi_range2 hg hm ha hs hs2) fun σ H Q q => (eai_w q).imp fun x H1 ⟨w, G, d, e, p, r, hx, q1⟩ => by
    split at q1
    · rename_i ds e' p' hk
      split at hk
      · split at hk
        · rename_i l n hn
          cases hk
          obtain ⟨v, us, rfl, a1, a2⟩ := hx.inv
          obtain ⟨v2, us2, rfl, b1, b2⟩ := a2.inv
          cases b2
          cases a1
          cases b1
          exact ⟨l, n, rfl, ⟨by omega, by omega, by omega, by omega⟩, q1 G _ H1 (Sub.refl _) r walkD_range⟩
        · cases hk
      · cases hk
    · rename_i hk
      split at hk
      · split at hk <;> cases hk
      · cases hk
    · exact q1.elim
def iEnumD (fs : AM) : AM := fun e p => (fs e p).bind fun ds e p => match ds with
  | [.lst xs] => .ok (enumD xs) e p
  | _ => .bad
theorem di_enum {p tpos : Pos} {elts : List Expr} {kk : Nat} (hg : Gl X "enumerate") (hm : X.mg "enumerate" = none) (ha : DA X WW [a] fs) (hs : starEach [a] X.env = [(false, eval a X.env)] := by rfl) : DI X WW (.Tuple elts kk tpos) (.Call (.Name "enumerate" p) [a] [] pos) (iEnumD fs) :=
  PIw (pi_enum hg hm ha hs) fun σ H Q q => (eai_w q).imp fun x H1 ⟨w, G, d, e, p, r, hx, q1⟩ => by
    split at q1
    · rename_i ds e' p' hk
      split at hk
      · cases hk
        obtain ⟨v, us, rfl, a1, a2⟩ := hx.inv
        cases a2
        cases a1 with
        | lst g1 g2 => exact ⟨_, _, rfl, SqL.of (r.sub _ _ g1), q1 G _ H1 (Sub.refl _) r (walkD_enum (W := wd X w) g1 g2)⟩
      · cases hk
    · rename_i hk
      split at hk <;> cases hk
    · exact q1.elim
def iZipD (fs : AM) : AM := fun e p => (fs e p).bind fun ds e p => match ds with
  | [.lst xs, .lst ys] => .ok (zipD xs ys) e p
  | [.tup xs, .tup ys] => .ok (zipD xs ys) e p
  | _ => .bad
theorem di_zip {p tpos : Pos} {elts : List Expr} {kk : Nat} (hg : Gl X "zip") (hm : X.mg "zip" = none) (ha : DA X WW [a, b] fs) (hs : starEach [a, b] X.env = (false, eval a X.env) :: starEach [b] X.env := by rfl) (hpl : (backTo pos (starEach [b] X.env)).any (·.1) = false := by rfl) : DI X WW (.Tuple elts kk tpos) (.Call (.Name "zip" p) [a, b] [] pos) (iZipD fs) :=
  PIw (pi_zipA hg hm ha hs hpl) fun σ H Q q => (eai_w q).imp fun x H1 ⟨w, G, d, e, p, r, hx, q1⟩ => by
    split at q1
    · rename_i ds e' p' hk
      split at hk
      · cases hk
        obtain ⟨v, us, rfl, a1, a2⟩ := hx.inv
        obtain ⟨v2, us2, rfl, b1, b2⟩ := a2.inv
        cases b2
        cases a1 with
        | lst g1 g2 => cases b1 with
          | lst k1 k2 => exact ⟨_, _, _, _, rfl, .inl ⟨SqL.of (r.sub _ _ g1), SqL.of (r.sub _ _ k1), q1 G _ H1 (Sub.refl _) r (walkD_zip (W := wd X w) g1 k1 g2 k2)⟩⟩
      · cases hk
        obtain ⟨v, us, rfl, a1, a2⟩ := hx.inv
        obtain ⟨v2, us2, rfl, b1, b2⟩ := a2.inv
        cases b2
        cases a1 with
        | tup g1 g2 => cases b1 with
          | tup k1 k2 => exact ⟨_, _, _, _, rfl, .inr ⟨SqT.of (r.sub _ _ g1), SqT.of (r.sub _ _ k1), q1 G _ H1 (Sub.refl _) r (walkD_zipT (W := wd X w) (SqT.of g1) (SqT.of k1) g2 k2)⟩⟩
      · cases hk
    · rename_i hk
      split at hk <;> cases hk
    · exact q1.elim

def forGo (g : GM) (body : SM) : List D → Ev → Pen → SR
  | [], e, p => .nx e p
  | x :: xs, e, p => match g x e with
    | none => .bad
    | some e1 => match body e1 p with
      | .nx e2 p2 => forGo g body xs e2 p2
      | .ct e2 p2 => forGo g body xs e2 p2
      | .bk e2 p2 => .nx e2 p2
      | r => r
def sFor (it : AM) (g : GM) (body : SM) : SM := fun e p => toS (it e p) fun xs e p => forGo g body xs e p
theorem ds_for {iter : Expr} {body : List Stmt} {fi : AM} {g : GM} {f : SM} {ks : List Nat} (hp : PassesOwn (model X.prog X.w) X.A X.env X.xe) (hc : X.calm = true) (hi : DI X WW tg iter fi) (hg : DG X tg ks g) (hb : DSs X WW body f)
    (hs : ∀ x, foldedSetIterable iter X.env x = pure x := by intro _; rfl) : DS X WW (.For tg iter body [] pos) (sFor fi g f) := PSw (ps_for hp hc hi hg hb hs) fun D σ H ⟨w, G, e, p, r, q⟩ => by
  refine ⟨w, G, e, p, r, ?_⟩
  unfold sFor at q
  cases hf : fi e p with
  | bad => simp only [hf, toS] at q; exact q
  | exc x e1 p1 => simp only [hf, toS] at q; exact fun G1 c d H1 s1 r1 => q G1 c d σ H1 s1 r1
  | ok ds e1 p1 =>
    simp only [hf, toS] at q
    intro G1 J H1 s1 R1 ⟨Gd, Y, wk, hgd, hy⟩
    refine for_it wk (fun i σ' H' => ∃ G' e' p', Sub G1 G' ∧ R (wd X w) G' e' p' σ' H' ∧ PostS (wd X w) WW D G' (forGo g f (ds.drop i) e' p')) ?_ ?_ ?_ ?_
    · exact ⟨G1, e1, p1, Sub.refl _, R1, PostS.mono q s1⟩
    · rintro i σ' H' _ ⟨G', e', p', s', r', _⟩
      exact hgd H' (s'.trans r'.sub)
    · rintro i x σ' H' H'' hi ⟨G', e', p', s', r', q'⟩ y
      obtain ⟨d, hd, hx⟩ := hy i H' x H'' hi (hgd H' (s'.trans r'.sub)) y
      obtain ⟨G2, al, hv⟩ := hx G' s' r'.sub
      obtain ⟨r2, s2⟩ := r'.alloc' al
      have hdr : ds.drop i = d :: ds.drop (i + 1) := by
        obtain ⟨hlt, he⟩ := List.getElem?_eq_some_iff.mp hd
        rw [← he]
        exact List.drop_eq_getElem_cons hlt
      rw [hdr] at q'
      unfold forGo at q'
      cases hg' : g d e' with
      | none => simp only [hg'] at q'; exact q'.elim
      | some e2 =>
        simp only [hg'] at q'
        refine ⟨w, G2, e', p', d, r2, hv, e2, hg', fun σ3 _ r3 => ⟨w, G2, e2, p', r3, ?_⟩⟩
        have q2 := PostS.mono q' s2
        cases hb : f e2 p' with
        | nx e3 p3 => simp only [hb] at q2; exact fun G3 σ4 H4 s3 r4 => ⟨G3, e3, p3, s'.trans (s2.trans s3), r4, PostS.mono q2 s3⟩
        | ct e3 p3 => simp only [hb] at q2; exact fun G3 σ4 H4 s3 r4 => ⟨G3, e3, p3, s'.trans (s2.trans s3), r4, PostS.mono q2 s3⟩
        | bk e3 p3 => simp only [hb] at q2; exact q2
        | rt d e3 p3 => simp only [hb] at q2; exact q2
        | exc x e3 p3 => simp only [hb] at q2; exact q2
        | bad => simp only [hb] at q2; exact q2
    · rintro σ' H' ⟨G', e', p', s', r', q'⟩
      rw [List.drop_length] at q'
      exact q' G' σ' H' (Sub.refl _) r'

def whGo (c : TM) (b : SM) : Nat → Ev → Pen → Option SR
  | 0, _, _ => none
  | n + 1, e, p => match c e p with
    | .ok true e1 p1 => match b e1 p1 with
      | .nx e2 p2 => whGo c b n e2 p2
      | .ct e2 p2 => whGo c b n e2 p2
      | .bk e2 p2 => some (.nx e2 p2)
      | r => some r
    | .ok false e1 p1 => some (.nx e1 p1)
    | .exc x e1 p1 => some (.exc x e1 p1)
    | .bad => some .bad
theorem whGo_mono {c : TM} {b : SM} : ∀ {n : Nat} {e : Ev} {p : Pen} {r : SR}, whGo c b n e p = some r → ∀ m, n ≤ m → whGo c b m e p = some r
  | 0, _, _, _, h, _, _ => by cases h
  | n + 1, e, p, r, h, 0, l => absurd l (by omega)
  | n + 1, e, p, r, h, m + 1, l => by
    unfold whGo at h ⊢
    cases hc : c e p with
    | bad => simp only [hc] at h ⊢; exact h
    | exc x e1 p1 => simp only [hc] at h ⊢; exact h
    | ok k e1 p1 =>
      cases k with
      | false => simp only [hc] at h ⊢; exact h
      | true =>
        simp only [hc] at h ⊢
        cases hb : b e1 p1 with
        | nx e2 p2 => simp only [hb] at h ⊢; exact whGo_mono h m (Nat.le_of_succ_le_succ l)
        | ct e2 p2 => simp only [hb] at h ⊢; exact whGo_mono h m (Nat.le_of_succ_le_succ l)
        | bk e2 p2 => simp only [hb] at h ⊢; exact h
        | rt d e2 p2 => simp only [hb] at h ⊢; exact h
        | exc x e2 p2 => simp only [hb] at h ⊢; exact h
        | bad => simp only [hb] at h ⊢; exact h
open Classical in
noncomputable def sWhile (c : TM) (b : SM) : SM := fun e p => if h : ∃ r n, whGo c b n e p = some r then choose h else .bad
theorem sWhile_of {c : TM} {b : SM} {n : Nat} {e : Ev} {p : Pen} {r : SR} (h : whGo c b n e p = some r) : sWhile c b e p = r := by
  have ex : ∃ r n, whGo c b n e p = some r := ⟨r, n, h⟩
  unfold sWhile
  rw [dif_pos ex]
  obtain ⟨m, hm⟩ := Classical.choose_spec ex
  have h1 := whGo_mono h (max n m) (Nat.le_max_left _ _)
  have h2 := whGo_mono hm (max n m) (Nat.le_max_right _ _)
  rw [h1] at h2
  exact (Option.some.inj h2).symm
theorem sWhile_eq (c : TM) (b : SM) (e : Ev) (p : Pen) : sWhile c b e p = match c e p with
    | .ok true e1 p1 => (match b e1 p1 with
      | .nx e2 p2 => sWhile c b e2 p2
      | .ct e2 p2 => sWhile c b e2 p2
      | .bk e2 p2 => .nx e2 p2
      | r => r)
    | .ok false e1 p1 => .nx e1 p1
    | .exc x e1 p1 => .exc x e1 p1
    | .bad => .bad := by
  have step : ∀ e2 p2, (∀ n, whGo c b (n + 1) e p = whGo c b n e2 p2) → sWhile c b e p = sWhile c b e2 p2 := fun e2 p2 hs => by
    by_cases h : ∃ r n, whGo c b n e2 p2 = some r
    · obtain ⟨r, n, hr⟩ := h
      rw [sWhile_of hr, sWhile_of (n := n + 1) (by rw [hs]; exact hr)]
    · have h' : ¬ ∃ r n, whGo c b n e p = some r := fun ⟨r, n, hr⟩ => by
        cases n with
        | zero => cases hr
        | succ n => exact h ⟨r, n, by rw [← hs]; exact hr⟩
      unfold sWhile
      rw [dif_neg h, dif_neg h']
  cases hc : c e p with
  | bad => exact sWhile_of (n := 1) (by unfold whGo; simp only [hc])
  | exc x e1 p1 => exact sWhile_of (n := 1) (by unfold whGo; simp only [hc])
  | ok k e1 p1 =>
    cases k with
    | false => exact sWhile_of (n := 1) (by unfold whGo; simp only [hc])
    | true =>
      cases hb : b e1 p1 with
      | nx e2 p2 => simp only [hb]; exact step e2 p2 fun n => by rw [whGo]; simp only [hc, hb]
      | ct e2 p2 => simp only [hb]; exact step e2 p2 fun n => by rw [whGo]; simp only [hc, hb]
      | bk e2 p2 => simp only [hb]; exact sWhile_of (n := 1) (by unfold whGo; simp only [hc, hb])
      | rt d e2 p2 => simp only [hb]; exact sWhile_of (n := 1) (by unfold whGo; simp only [hc, hb])
      | exc x e2 p2 => simp only [hb]; exact sWhile_of (n := 1) (by unfold whGo; simp only [hc, hb])
      | bad => simp only [hb]; exact sWhile_of (n := 1) (by unfold whGo; simp only [hc, hb])
theorem ds_while {c : Expr} {body : List Stmt} {f : SM} (hp : PassesOwn (model X.prog X.w) X.A X.env X.xe) (hc : DT X WW c ta) (hb : DSs X WW body f) : DS X WW (.While c body [] pos) (sWhile ta f) := PSw (ps_while hp hc hb) fun D σ H ⟨w, G, e, p, r, q⟩ => by
  by_cases h : ∃ r n, whGo ta f n e p = some r
  · obtain ⟨rr, n, hr⟩ := h
    rw [sWhile_of hr] at q
    refine ⟨fun m σ' H' => ∃ G' e' p' rr, R (wd X w) G' e' p' σ' H' ∧ whGo ta f m e' p' = some rr ∧ PostS (wd X w) WW D G' rr, ⟨n, G, e, p, rr, r, hr, q⟩, ?_⟩
    rintro m σ' H' ⟨G', e', p', rr', r', hr', q'⟩
    refine ⟨w, G', e', p', r', ?_⟩
    cases m with
    | zero => cases hr'
    | succ m =>
      unfold whGo at hr'
      cases hc : ta e' p' with
      | bad => simp only [hc] at hr'; cases hr'; exact q'
      | exc x e1 p1 => simp only [hc] at hr'; cases hr'; exact fun G1 c d H1 s1 r1 => q' G1 c d σ' H1 s1 r1
      | ok k e1 p1 =>
        intro G1 k' H1 s1 r1 hk
        have hk' : k' = k := hk
        subst hk'
        cases k' with
        | false =>
          simp only [hc] at hr'
          cases hr'
          exact q' G1 σ' H1 s1 r1
        | true =>
          simp only [hc] at hr'
          refine ⟨fun σ2 H2 => ∃ G' e' p' rr, R (wd X w) G' e' p' σ2 H2 ∧ whGo ta f m e' p' = some rr ∧ PostS (wd X w) WW D G' rr, fun σ2 H2 h2 => ⟨m, Nat.lt_succ_self m, h2⟩, w, G1, e1, p1, r1, ?_⟩
          have q2 := PostS.mono q' s1
          cases hb : f e1 p1 with
          | nx e2 p2 => simp only [hb] at hr'; exact fun G3 σ4 H4 s3 r4 => ⟨G3, e2, p2, rr', r4, hr', PostS.mono q2 s3⟩
          | ct e2 p2 => simp only [hb] at hr'; exact fun G3 σ4 H4 s3 r4 => ⟨G3, e2, p2, rr', r4, hr', PostS.mono q2 s3⟩
          | bk e2 p2 => simp only [hb] at hr'; cases hr'; exact q2
          | rt d e2 p2 => simp only [hb] at hr'; cases hr'; exact q2
          | exc x e2 p2 => simp only [hb] at hr'; cases hr'; exact q2
          | bad => simp only [hb] at hr'; cases hr'; exact q2
  · unfold sWhile at q
    rw [dif_neg h] at q
    exact q.elim
end
end Pd

namespace Pd
open PySem PySem.Spec L2

section
variable {W : Wd} {G G' H H' : Hp} {e : Ev} {p p' : Pen} {σ : L2.St} {c : Addr}
theorem R.extra (r : R W G e p σ H) (h : H c = none) (o : HO) : R W G e p σ (upd H c o) := by
  obtain ⟨fps, h1, h2, h3⟩ := r.sls
  obtain ⟨f1, f2, f3⟩ := r.base.free h
  exact ⟨r.base.write f2 f1 f3 (by rw [h]; exact Soft.none), fps, h1.mono (Sub.refl G) (fun b hb u hu => by
    rw [upd_ne (fun z => h1.there b hb (by rw [z]; exact h))]
    exact hu), h2, h3⟩
structure Lo (W : Wd) (G : Hp) (e : Ev) (p : Pen) (σ : L2.St) (H : Hp) (c : Addr) : Prop where
  r : R W G e p σ (upd H c (.own 0))
  g : G c = none
  b : W.B c = none
  ne : c ≠ W.pa
theorem SlRs.but {fps : List (List Addr)} {o : HO} (hh : SlRs W G (upd H c (.own 0)) σ e fps) (k : ∀ a ∈ fps.flatten, a ≠ c → H' a = H a) : SlRs W G H' σ e fps := hh.mono (Sub.refl G) fun a ha u hu => by
  have ne : a ≠ c := fun z => by
    obtain ⟨o', q, oq⟩ := hh.isL a ha
    rw [z, upd_same] at q
    cases q
    exact oq.2 _ rfl
  rw [upd_ne ne] at hu
  rw [k a ha ne]
  exact hu
theorem Lo.at_ (l : Lo W G e p σ H c) (o : HO) : R W G e p σ (upd H c o) := by
  obtain ⟨fps, h1, h2, h3⟩ := l.r.sls
  refine ⟨?_, fps, h1.but (o := o) fun a _ ne => upd_ne ne, h2, h3⟩
  have := l.r.base.write (o := o) l.g l.b l.ne (by rw [upd_same]; exact soft_own _)
  rw [upd_upd] at this
  exact this
theorem Lo.here (l : Lo W G e p σ H c) {o : HO} (h : H c = some o) : R W G e p σ H := by
  have := l.at_ o
  have e1 : upd H c o = H := by
    funext b
    by_cases q : b = c
    · rw [q, upd_same, h]
    · rw [upd_ne q]
  rw [e1] at this
  exact this
theorem Lo.set (l : Lo W G e p σ H c) (o : HO) : Lo W G e p σ (upd H c o) c := ⟨by rw [upd_upd]; exact l.r, l.g, l.b, l.ne⟩
theorem Lo.hide (l : Lo W G e p σ H c) : R W G e p σ (fun b => if b = c then none else H b) := by
  have hn : ∀ b, b ≠ c → (fun b => if b = c then none else H b) b = H b := fun b h => if_neg h
  obtain ⟨fps, h1, h2, h3⟩ := l.r.sls
  have bs := l.r.base
  refine ⟨⟨fun a o h => ?_, bs.g0, bs.new, fun a o h hp ht => ?_, bs.gt, bs.nt, tabs_but bs.tab (c := c) (by rw [upd_same]; exact soft_own _) (fun b hb => (hn b hb).trans (upd_ne hb).symm), ?_⟩, fps, h1.but (o := .own 0) fun a _ ne => hn a ne, h2, h3⟩
  · have ne : a ≠ c := fun z => by rw [z, l.g] at h; cases h
    have := bs.sub a o h
    rw [upd_ne ne] at this
    exact (hn a ne).trans this
  · have ne : a ≠ c := fun z => by rw [z, l.b] at h; cases h
    have := bs.kept a o h hp ht
    rw [upd_ne ne] at this
    exact (hn a ne).trans this
  · obtain ⟨p1, ca, p2, p3⟩ := bs.pen
    refine ⟨p1, ca, p2, ?_⟩
    rw [upd_ne (Ne.symm l.ne)] at p3
    exact (hn _ (Ne.symm l.ne)).trans p3
theorem hide_upd {o : HO} (h : H c = some o) : upd (fun b => if b = c then none else H b) c o = H := by
  funext b
  by_cases q : b = c
  · rw [q, upd_same, h]
  · rw [upd_ne q]
    exact if_neg q
theorem Lo.mono (l : Lo W G e p σ H c) (a : Alloc G H G' H') {o : HO} (h : H c = some o) : Lo W G' e p σ H' c ∧ H' c = some o := by
  induction a with
  | refl => exact ⟨l, h⟩
  | step k hq hu ih =>
    obtain ⟨l, h⟩ := ih
    rename_i H0 q u
    have ne : c ≠ q := ne_of_none h hq
    have hq' : upd H0 c (.own 0) q = none := by rw [upd_ne (Ne.symm ne)]; exact hq
    refine ⟨⟨?_, by rw [upd_ne ne]; exact l.g, l.b, l.ne⟩, by rw [upd_ne ne]; exact h⟩
    have := l.r.alloc (o := u) hq' hu
    have e1 : upd (upd H0 c (.own 0)) q u = upd (upd H0 q u) c (.own 0) := by
      funext b
      by_cases h1 : b = q
      · subst h1
        rw [upd_same, upd_ne (Ne.symm ne), upd_same]
      · rw [upd_ne h1]
        by_cases h2 : b = c
        · subst h2
          rw [upd_same, upd_same]
        · rw [upd_ne h2, upd_ne h2, upd_ne h1]
    rw [e1] at this
    exact this
theorem Lo.after (l : Lo W G e p σ H c) {o : HO} (h : H c = some o) (ho : ∀ ps, o ≠ .tbl ps) (hso : Soft (some o)) (b : Base ⟨W.K, W.mg, W.pa, noTab H, G, 0⟩ G' p' H') : Lo W G' e p' σ H' c ∧ H' c = some o ∧ Sub G G' := by
  have hc : H' c = some o := b.kept c o (noTab_of h ho) l.ne ho
  have gc : G' c = none := by
    cases z : G' c with
    | none => rfl
    | some u =>
      rcases b.new c (by rw [z]; exact fun z => nomatch z) with q | q
      · exact absurd l.g q
      · have q : noTab H c = none := q
        rw [noTab_of h ho] at q
        cases q
  have b2 : Base ⟨W.K, W.mg, W.pa, noTab (upd H c (.own 0)), G, 0⟩ G' p' (upd H' c (.own 0)) := by
    refine ⟨fun a u hu => ?_, b.g0, fun a ha => ?_, fun a u hu hp ht => ?_, b.gt, fun a ps => noTab_nt _ a ps, tabs_but b.tab (c := c) (by rw [hc]; exact hso) (fun b hb => upd_ne hb), ?_⟩
    · rw [upd_ne (fun z => by rw [z, gc] at hu; cases hu)]
      exact b.sub a u hu
    · rcases b.new a ha with q | q
      · exact .inl q
      · refine .inr ?_
        have q : noTab H a = none := q
        show noTab (upd H c (.own 0)) a = none
        have ne : a ≠ c := fun z => by rw [z, noTab_of h ho] at q; cases q
        unfold noTab at q ⊢
        rw [upd_ne ne]
        exact q
    · have hu : upd H c (.own 0) a = some u := noTab_sub _ hu
      by_cases z : a = c
      · rw [z, upd_same] at hu ⊢
        exact hu
      · rw [upd_ne z] at hu ⊢
        exact b.kept a u (noTab_of hu ht) hp ht
    · obtain ⟨p1, ca, p2, p3⟩ := b.pen
      exact ⟨p1, ca, p2, by rw [upd_ne (Ne.symm l.ne)]; exact p3⟩
  obtain ⟨r, s⟩ := l.r.after b2
  exact ⟨⟨r, gc, l.b, l.ne⟩, hc, s⟩
end
def unown : Option Sl → Option Sl
  | some (.v d) => some (.v d)
  | _ => none
def wipeE (e : Ev) : List Nat → Ev
  | [] => e
  | v :: vs => (wipeE e vs).set v none
def mask (vs : List Nat) (e : Ev) : Ev := wipeE (e.map unown) vs
theorem SlRs.mask0 {W : Wd} {W' : Wd} {G H H' : Hp} (hK : W'.K = W.K) (hm : W'.mg = W.mg) (hp : W'.pa = W.pa) : ∀ {σ : L2.St} {e : Ev} {fps : List (List Addr)}, SlRs W G H σ e fps → SlRs W' G H' σ (e.map unown) (e.map fun _ => [])
  | _, _, _, .nil => .nil
  | _, _, _, .cons h r => .cons (by
      cases h with
      | emp => exact .emp
      | val q => exact .val (by rw [hK, hm, hp]; exact q)
      | lis _ _ => exact .emp
      | lis2 _ _ => exact .emp
      | ins _ _ _ _ | dk _ _ _ | dt _ _ _ => exact .emp) (SlRs.mask0 hK hm hp r)
theorem SlRs.wipe {W : Wd} {G H : Hp} {σ : L2.St} {e : Ev} {fps : List (List Addr)} (h : SlRs W G H σ e fps) : ∀ vs : List Nat, ∃ fps', SlRs W G H (L2.wipe σ vs) (wipeE e vs) fps' ∧ fps'.flatten.Sublist fps.flatten
  | [] => ⟨fps, h, List.Sublist.refl _⟩
  | v :: vs => by
    obtain ⟨f, h1, h2⟩ := SlRs.wipe h vs
    exact ⟨f.set v [], h1.set v .emp, List.Sublist.trans flatten_set_nil h2⟩
theorem wipe_wipe (σ : L2.St) (vs : List Nat) : L2.wipe (L2.wipe σ vs) vs = L2.wipe σ vs := by
  have h : ∀ us : List Nat, (∀ u ∈ us, u ∈ vs) → L2.wipe (L2.wipe σ us) vs = L2.wipe σ vs := by
    intro us
    induction us with
    | nil => intro _; rfl
    | cons u us ih =>
      intro hu
      show L2.wipe ((L2.wipe σ us).set u none) vs = _
      rw [wipe_set_mem (hu u List.mem_cons_self)]
      exact ih fun v hv => hu v (List.mem_cons_of_mem _ hv)
  exact h vs fun _ h => h
theorem R.rebase {X : Cx} {w : Wl} {G H : Hp} {e : Ev} {p : Pen} {σ : L2.St} (r : R (wd X w) G e p σ H) (vs : List Nat) : R (wd X ⟨w.pa, noTab H, G, 0⟩) G (mask vs e) p (L2.wipe σ vs) H := by
  obtain ⟨fps, h1, h2, h3⟩ := r.sls
  have m : SlRs (wd X ⟨w.pa, noTab H, G, 0⟩) G H σ (e.map unown) (e.map fun _ => []) := SlRs.mask0 (W := wd X w) (W' := wd X ⟨w.pa, noTab H, G, 0⟩) rfl rfl rfl h1
  obtain ⟨f, k1, k2⟩ := m.wipe vs
  have z : (e.map fun _ => ([] : List Addr)).flatten = [] := by
    clear m k1 k2 h1
    induction e with
    | nil => rfl
    | cons _ _ ih => simp
  have fz : f.flatten = [] := by
    rw [z] at k2
    exact List.sublist_nil.mp k2
  exact ⟨⟨r.base.sub, Sub.refl G, fun a h => .inl h, fun a o h _ _ => noTab_sub H h, r.base.gt, fun a ps => noTab_nt H a ps, r.base.tab, r.base.pen⟩, f, k1, by rw [fz]; exact List.nodup_nil, fun a ha => by rw [fz] at ha; cases ha⟩
def freeze : List Nat → Ev → Ev
  | [], e => e
  | j :: js, e => match (freeze js e)[j]? with
    | some (some (.own xs)) => (freeze js e).set j (some (.v (.lst xs)))
    | _ => freeze js e
theorem R.freeze {W : Wd} {G H : Hp} {e : Ev} {p : Pen} {σ : L2.St} (r : R W G e p σ H) : ∀ js : List Nat, ∃ G', Sub G G' ∧ R W G' (Pd.freeze js e) p σ H
  | [] => ⟨G, Sub.refl G, r⟩
  | j :: js => by
    obtain ⟨G1, s1, r1⟩ := R.freeze r js
    unfold Pd.freeze
    split
    · rename_i xs hx
      obtain ⟨a, vs, h1, h2, h3, g1, g2, g3, _, h5⟩ := r1.getOwn hx
      exact ⟨_, s1.trans (Sub.new g1), h5⟩
    · exact ⟨G1, s1, r1⟩

abbrev WF : WX := fun _ _ _ _ => False
def compGo (g : GM) (t : TM) (f : EM) (eb : Ev) : List D → Pen → Option (List D × Pen)
  | [], p => some ([], p)
  | x :: xs, p => match g x eb with
    | none => none
    | some e1 => match t e1 p with
      | .ok true e2 p2 => (match f e2 p2 with
        | .ok d _ p3 => (compGo g t f eb xs p3).map fun q => (d :: q.1, q.2)
        | _ => none)
      | .ok false _ p2 => compGo g t f eb xs p2
      | _ => none
def fComp (js : List Nat) (it : AM) (vs : List Nat) (g : GM) (t : TM) (f : EM) : AM := fun e p => (it (freeze js e) p).bind fun ds e p => if small ds.length then
    (match compGo g t f (mask vs e) ds p with
    | some (xs, p') => .ok xs e p'
    | none => .bad)
  else .bad
def tmYes : TM := fun e p => .ok true e p
abbrev DTs (X : Cx) (WW : WX) (ifs : List Expr) (f : TM) : Prop := PTs X ifs (tT X WW f)
section
variable {X : Cx} {WW : WX}
theorem dts_nil : DTs X WW [] tmYes := ⟨fun pins s σ H Q I ⟨w, G, e, p, r, q⟩ => (pts_nil (X := X)).run pins s σ H Q I (q G true H (Sub.refl _) r rfl)⟩
theorem dts_one {c : Expr} {t : TM} (h : DT X WW c t) : DTs X WW [c] t := pts_one h
theorem comp_core {J : It} {ds : List D} {g : GM} {t : TM} {f : EM} {ks vs : List Nat} {w : Wl} {G1 : Hp} {e1 : Ev} {p1 : Pen} {σ : L2.St} {H1 : Hp} {c : Addr} {Qd : Hp → Prop} {acc0 : List V} {ds0 : List D} {xs : List D} {p' : Pen} (hks : ∀ k ∈ ks, k ∈ vs)
    (wk : WalkD (wd X w) G1 J ds) (hl : ds0.length + ds.length ≤ 10000000) (l : Lo (wd X w) G1 e1 p1 σ H1 c) (hc : H1 c = some (.lst acc0)) (ha : RepsW (wd X w) G1 acc0 ds0) (hgo : compGo g t f (mask vs e1) ds p1 = some (xs, p'))
    (hQ : ∀ G2 acc H2, Sub G1 G2 → Lo (wd X w) G2 e1 p' σ H2 c → H2 c = some (.lst acc) → RepsW (wd X w) G2 acc (ds0 ++ xs) → Qd H2) :
    ∃ Wm : Nat → Nat → Hp → Prop, (∃ m, Wm 0 m H1) ∧ ∀ i m H, Wm i m H → (J.stop i H ∧ Qd H) ∨ (J.go i H ∧ ∃ Nx : Hp → Prop, (∀ H', Nx H' → ∃ m', m' < m ∧ Wm (i + 1) m' H') ∧ ∀ x H', J.yld i H x H' → (tG X ks g) x (L2.wipe σ vs) H' fun σ2 H2 => L2.wipe σ2 vs = L2.wipe σ vs ∧ (tT X WF t) σ2 H2 fun b H3 =>
      if b = true then (tE X WF f) σ2 H3 fun y H4 => ∃ acc, H4 c = some (.lst acc) ∧ acc.length < sizeLine ∧ Nx (upd H4 c (.lst (acc ++ [y]))) else Nx H3) := by
  obtain ⟨Gd, Y, wk, hgd, hy⟩ := wk
  -- what holds ahead of turn i
  let Pv : Nat → Hp → Prop := fun i H => ∃ G2 acc ds2 p2 xs2, Sub G1 G2 ∧ Lo (wd X w) G2 e1 p2 σ H c ∧ H c = some (.lst acc) ∧ RepsW (wd X w) G2 acc ds2 ∧ ds2.length ≤ ds0.length + i ∧ compGo g t f (mask vs e1) (ds.drop i) p2 = some (xs2, p') ∧ ds2 ++ xs2 = ds0 ++ xs
  refine ⟨fun i m H => m = ds.length - i ∧ i ≤ ds.length ∧ Pv i H, ⟨ds.length, by simp, Nat.zero_le _, G1, acc0, ds0, p1, xs, Sub.refl _, l, hc, ha, Nat.le_refl _, hgo, rfl⟩, ?_⟩
  rintro i m H ⟨rfl, hi, G2, acc, ds2, p2, xs2, s2, l2, hc2, ha2, hn2, hg2, he2⟩
  have r2 := l2.here hc2
  have hG := hgd H (s2.trans r2.sub)
  by_cases hlt : i < ds.length
  · refine .inr ⟨wk.goes i H hlt hG, Pv (i + 1), fun H' p' => ⟨ds.length - (i + 1), by omega, rfl, hlt, p'⟩, fun x H' y => ?_⟩
    obtain ⟨d, hd, hx⟩ := hy i H x H' hlt hG (wk.yields i H x H' hlt hG y)
    obtain ⟨G3, al, hv⟩ := hx G2 s2 r2.sub
    obtain ⟨l3, hc3⟩ := l2.mono al hc2
    have s3 : Sub G2 G3 := (r2.alloc' al).2
    have r3 := l3.here hc3
    have hdr : ds.drop i = d :: ds.drop (i + 1) := by
      obtain ⟨hlt', he⟩ := List.getElem?_eq_some_iff.mp hd
      rw [← he]
      exact List.drop_eq_getElem_cons hlt'
    rw [hdr] at hg2
    unfold compGo at hg2
    cases hg : g d (mask vs e1) with
    | none => simp only [hg] at hg2; cases hg2
    | some e4 =>
      simp only [hg] at hg2
      have rb := r3.rebase vs
      refine ⟨⟨w.pa, noTab H', G3, 0⟩, G3, mask vs e1, p2, d, rb, hv, e4, hg, fun σ4 bt r4 => ⟨(bt vs hks).trans (wipe_wipe σ vs), ⟨w.pa, noTab H', G3, 0⟩, G3, e4, p2, r4, ?_⟩⟩
      cases ht : t e4 p2 with
      | bad => simp only [ht] at hg2; cases hg2
      | exc x e5 p5 => simp only [ht] at hg2; cases hg2
      | ok k e5 p5 =>
        intro G5 k' H5 s5 r5 hk
        have hk' : k' = k := hk
        subst hk'
        cases k' with
        | false =>
          simp only [ht] at hg2
          obtain ⟨l5, hc5, s35⟩ := l3.after hc3 (fun ps z => nomatch z) (soft_lst _) r5.base
          exact ⟨G5, acc, ds2, p5, xs2, s2.trans (s3.trans s35), l5, hc5, ha2.mono (s3.trans s35), by omega, hg2, he2⟩
        | true =>
          simp only [ht] at hg2
          refine ⟨⟨w.pa, noTab H', G3, 0⟩, G5, e5, p5, r5, ?_⟩
          cases hf : f e5 p5 with
          | bad => simp only [hf] at hg2; cases hg2
          | exc x e6 p6 => simp only [hf] at hg2; cases hg2
          | ok d6 e6 p6 =>
            simp only [hf] at hg2
            intro G6 y6 H6 s6 r6 hy6
            obtain ⟨l6, hc6, s36⟩ := l3.after hc3 (fun ps z => nomatch z) (soft_lst _) r6.base
            have hl2 := ha2.length
            cases hrest : compGo g t f (mask vs e1) (ds.drop (i + 1)) p6 with
            | none => rw [hrest] at hg2; cases hg2
            | some q =>
              obtain ⟨q1, q2⟩ := q
              rw [hrest] at hg2
              cases hg2
              refine ⟨acc, hc6, by rw [hl2]; exact small.lt (by unfold small; omega), G6, acc ++ [y6], ds2 ++ [d6], p6, q1, s2.trans (s3.trans s36), l6.set _, upd_same, (ha2.mono (s3.trans s36)).append (.cons hy6 .nil), by rw [List.length_append, List.length_singleton]; omega, hrest, ?_⟩
              rw [List.append_assoc]
              exact he2
  · have e : i = ds.length := by omega
    subst e
    rw [List.drop_length] at hg2
    have : xs2 = [] ∧ p2 = p' := by
      have h : some (([] : List D), p2) = some (xs2, p') := hg2
      cases h
      exact ⟨rfl, rfl⟩
    obtain ⟨rfl, rfl⟩ := this
    rw [List.append_nil] at he2
    exact .inl ⟨wk.stops H hG, hQ G2 acc H s2 l2 hc2 (by rw [← he2]; exact ha2)⟩
theorem comp_w {js ks vs : List Nat} {it : AM} {g : GM} {t : TM} {f : EM} (hks : ∀ k ∈ ks, k ∈ vs) (σ : L2.St) (H : Hp) (Q : VK) (q : tF X WW (fComp js it vs g t f) σ H Q) : tLc (tI X WW it) (tG X ks g) (tT X WF t) (tE X WF f) vs σ H Q := by
  obtain ⟨w, G, e, p, r, q⟩ := q
  obtain ⟨G0, s0, r0⟩ := r.freeze js
  refine ⟨w, G0, freeze js e, p, r0, ?_⟩
  unfold fComp at q
  cases hit : it (freeze js e) p with
  | bad => simp only [hit, Res.bind] at q; exact q
  | exc x e1 p1 => simp only [hit, Res.bind] at q; exact fun G1 c d H1 s1 r1 => q G1 c d H1 (s0.trans s1) r1
  | ok ds e1 p1 =>
    simp only [hit, Res.bind] at q
    intro G1 J H1 s1 r1 wk c hc
    split at q
    · rename_i hsm
      cases hgo : compGo g t f (mask vs e1) ds p1 with
      | none => simp only [hgo] at q; exact q.elim
      | some xp =>
        obtain ⟨xs, p'⟩ := xp
        simp only [hgo] at q
        obtain ⟨f1, f2, f3⟩ := r1.base.free hc
        refine comp_core (w := w) (G1 := G1) (e1 := e1) (p1 := p1) (acc0 := []) (ds0 := []) (xs := xs) (p' := p') hks wk (by unfold small at hsm; simpa using hsm) ⟨by rw [upd_upd]; exact r1.extra hc _, f2, f1, f3⟩ upd_same .nil hgo fun G2 acc H2 s2 l2 hc2 ha2 => ?_
        have := q G2 c acc _ (s0.trans (s1.trans s2)) l2.hide (if_pos rfl) ha2
        rw [hide_upd hc2] at this
        exact this
    · exact q.elim
theorem df_comp {elt tg iter : Expr} {ifs : List Expr} {scope : Scope} {own : List (Str × Nat)} {pos : Pos} {js ks : List Nat} {it : AM} {g : GM} {t : TM} {f : EM} (hc : X.calm = true) (hN : X.N.Nodup) (hi : DI X WW tg iter it) (ok : BlkOk X.N X.env.scope scope own)
    (hg : ∀ (s : Shared) (H : Hp) (C : Addr) (cl : List (Str × Addr)) (fp : List Addr), DG (X.blk s H scope (compEnvC scope cl C X.env) fp) tg ks g) (ht : ∀ (s : Shared) (H : Hp) (C : Addr) (cl : List (Str × Addr)) (fp : List Addr), DTs (X.blk s H scope (compEnvC scope cl C X.env) fp) WF ifs t)
    (he : ∀ (s : Shared) (H : Hp) (C : Addr) (cl : List (Str × Addr)) (fp : List Addr), DE (X.blk s H scope (compEnvC scope cl C X.env) fp) WF elt f) (hks : ∀ k ∈ ks, k ∈ own.map (·.2) := by decide) (hs : ∀ x, foldedSetIterable iter X.env x = pure x := by intro _; rfl) :
    DF X WW (.ListComp elt [⟨tg, iter, ifs, 0⟩] scope pos) (fComp js it (own.map (·.2)) g t f) := PEw (pe_lc hc hN hi ok hg ht he hs) (comp_w hks)
theorem ds_setComp {i : Nat} {y : Str} {py : Pos} {elt tg iter : Expr} {ifs : List Expr} {scope : Scope} {own : List (Str × Nat)} {pos spos : Pos} {js ks : List Nat} {it : AM} {g : GM} {t : TM} {f : EM} (hc : X.calm = true) (hN : X.N.Nodup) (hyl : X.env.scope.names.lookup y = some .local) (hsw : swapsWith (.ListComp elt [⟨tg, iter, ifs, 0⟩] scope pos) (some (.Name y py)) spos.line X.env = pure true)
    (hi : DI X WW tg iter it) (ok : BlkOk X.N X.env.scope scope own)
    (hg : ∀ (s : Shared) (H : Hp) (C : Addr) (cl : List (Str × Addr)) (fp : List Addr), DG (X.blk s H scope (compEnvC scope cl C X.env) fp) tg ks g) (ht : ∀ (s : Shared) (H : Hp) (C : Addr) (cl : List (Str × Addr)) (fp : List Addr), DTs (X.blk s H scope (compEnvC scope cl C X.env) fp) WF ifs t)
    (he : ∀ (s : Shared) (H : Hp) (C : Addr) (cl : List (Str × Addr)) (fp : List Addr), DE (X.blk s H scope (compEnvC scope cl C X.env) fp) WF elt f) (hy : X.N[i]? = some y := by rfl) (hks : ∀ k ∈ ks, k ∈ own.map (·.2) := by decide) (hs : ∀ x, foldedSetIterable iter X.env x = pure x := by intro _; rfl) :
    DS X WW (.Assign [.Name y py] (.ListComp elt [⟨tg, iter, ifs, 0⟩] scope pos) spos) (sOwn (fComp js it (own.map (·.2)) g t f) i) := PSw (ps_setLc hc hN hy hyl hsw hi ok hg ht he hs) fun D σ H q => comp_w hks σ H _ (own_w D σ H q)

def mkF (m : Nat) (f : SM) : Fn := fun ds p => match f (ds.map (fun d => some (Sl.v d)) ++ List.replicate (m - ds.length) none) p with
  | .nx _ p' => .ok .non p'
  | .rt d _ p' => .ok d p'
  | .exc x _ p' => .exc x p'
  | _ => .bad
end
theorem sls_start {W : Wd} {G H : Hp} (n : Nat) : ∀ {vs : List V} {ds : List D}, RepsW W G vs ds → SlRs W G H (vs.map some ++ List.replicate n none) (ds.map (fun d => some (Sl.v d)) ++ List.replicate n none) (List.replicate (ds.length + n) [])
  | _, _, .nil => by
    simp only [List.map_nil, List.nil_append, List.length_nil, Nat.zero_add]
    induction n with
    | zero => exact .nil
    | succ n ih => rw [List.replicate_succ, List.replicate_succ, List.replicate_succ]; exact .cons .emp ih
  | _, _, .cons (ds := ds) h r => by
    have ih := sls_start (H := H) n r
    rw [List.length_cons, Nat.add_right_comm, List.replicate_succ]
    exact .cons (.val h) ih
theorem ok_fn {P : Program} {w : World} {K : PySem.W.Frag} {mg : Str → Option Value} {base : Heap} {x qual : Str} {st : Stmt} {f : Addr} {fd : FuncData} {N ps : List Str} {k : Nat} {sm : SM} (F : L2.Fun K x qual st f fd) (S : FnScope N ps (defScope st))
    (hbody : ∀ (cdv : Value) (A : Around) (outer : List Env) (s : Shared) (H : Hp) (E : XK), Room k (A.deeper (PyProof.Rows.envOfC qual (defScope st) s.heap.objs.size f cdv)) →
      DSs (cxOf (L2.CX P w) P w K mg base N qual (defScope st) f cdv A outer s H E) (fun cls d _ H => E cls d H) (defBody st) sm) : FnOk P w K mg base (L2.CX P w) (k + 1) f fd ps (spF K mg ps.length (mkF N.length sm)) := by
  refine F.okX S (fun vs H Q E h => h.1) fun cdv A outer s H vs Q E hr h => ⟨_, hbody cdv A outer s H E hr, ?_⟩
  obtain ⟨hn, pa, G, p, ds, hs, hp, hg, ht, hv, hF⟩ := h
  have hl := hv.length
  refine ⟨⟨pa, noTab H, G, 0⟩, G, ds.map (fun d => some (Sl.v d)) ++ List.replicate (N.length - ds.length) none, p, ⟨⟨hs, Sub.refl G, fun a h => .inl h, fun a o h _ _ => noTab_sub H h, hg, fun a ps => noTab_nt H a ps, ht, hp⟩, List.replicate (ds.length + (N.length - ds.length)) [], ?_, ?_, ?_⟩, ?_⟩
  · unfold L2.start
    rw [hl]
    exact sls_start _ hv
  · have : (List.replicate (ds.length + (N.length - ds.length)) ([] : List Addr)).flatten = [] := by simp
    rw [this]
    exact List.nodup_nil
  · intro a ha
    have : (List.replicate (ds.length + (N.length - ds.length)) ([] : List Addr)).flatten = [] := by simp
    rw [this] at ha
    cases ha
  · unfold mkF at hF
    cases hb : sm (ds.map (fun d => some (Sl.v d)) ++ List.replicate (N.length - ds.length) none) p with
    | nx e1 p1 => simp only [hb] at hF; exact fun G' σ H' s r => hF G' .non H' r.base .non
    | rt d e1 p1 => simp only [hb] at hF; exact fun G' v H' s b hv => hF G' v H' b hv
    | bk e1 p1 => simp only [hb] at hF
    | ct e1 p1 => simp only [hb] at hF
    | exc x e1 p1 => simp only [hb] at hF; exact fun G' cls dd σ H' s r hx => hF G' cls dd H' r.base hx
    | bad => simp only [hb] at hF
end Pd

namespace Pd
open PySem PySem.Spec L2

def tyN : D → Option String
  | .non => some "NoneType"
  | .bl _ => some "bool"
  | .int _ => some "int"
  | .str _ => some "str"
  | .tup _ => some "tuple"
  | .lst _ => some "list"
  | _ => none
def isiD (T : String) (d : D) : Option D := ((tyN d).bind fun a => kitB a T).map .bl
def isiD2 (T U : String) (d : D) : Option D := (tyN d).bind fun a => (kitB a T).bind fun b => if b = true then some (.bl true) else (kitB a U).map .bl
section
variable {X : Cx} {WW : WX} {a : Expr} {pos : Pos} {fa : EM}
theorem RepQ.ty {w : Wl} {G H : Hp} {v : V} {d : D} {T : String} (s : Sub G H) (h : RepQ (wd X w) G H v d) (e : tyN d = some T) : TyX X.K H v (.type T) := by
  cases d with
  | non =>
    rcases h with h | ⟨a, vs, ds, _, h, _⟩
    · cases h; cases e; exact .base .non
    · cases h
  | bl b => cases h.bl; cases e; exact .base (.bl b)
  | int i => cases h.int; cases e; exact .base (.int i)
  | str x => cases h.str; cases e; exact .base (.str x)
  | tup xs =>
    obtain ⟨a, vs, rfl, h1, h2⟩ := h.tup s
    cases e
    rcases s.t h1 with (h1 | ⟨o, h1⟩) | ⟨o, its, n, h1, h3, _⟩
    · exact .base (.tup h1)
    · exact .fTuple h1
    · exact .kTuple h1 h3
  | lst xs =>
    obtain ⟨a, vs, rfl, h1, h2⟩ := h.lst s
    cases e
    exact .base (.lst h1)
  | obj c fs => cases e
  | dk kvs => cases e
  | dt kvs => cases e
  | pen => cases e
theorem de_isi {T : String} {x y : Str} {p q : Pos} (hg : Gl X x) (hm : X.mg x = none) (hv : bootBuiltins x = some (.builtin "isinstance")) (hgT : Gl X y) (hmT : X.mg y = none) (hvT : bootBuiltins y = some (.type T)) (ha : DQ X WW a fa)
    (hn : x ≠ "__name__" := by decide) (hd : (x == ("__debug__" : Str)) = false := by decide) (hnT : y ≠ "__name__" := by decide) (hdT : (y == ("__debug__" : Str)) = false := by decide) (hs : starEach (a :: [.Name y q]) X.env = (false, eval a X.env) :: starEach [.Name y q] X.env := by rfl) :
    DE X WW (.Call (.Name x p) [a, .Name y q] [] pos) (eUn (isiD T) fa) :=
  PEw (pe_callB call_isi hg hm hv (pa_cons ha (pa_cons (pe_bltn (v := .ty T) hgT hmT hvT rfl hnT hdT) pa_nil) hs) (hn := hn) (hdb := hd) (he := hs)) fun σ H Q q => (eq_w q).imp fun v H1 ⟨w, G, d, e, p, r, hv, q1⟩ => by
    unfold isiD at q1
    cases ht : tyN d with
    | none => simp only [ht] at q1; exact q1.elim
    | some N =>
      cases hk : kitB N T with
      | none => simp only [ht, hk, Option.bind] at q1; exact q1.elim
      | some b =>
        simp only [ht, hk, Option.bind, Option.map, optR] at q1
        exact ⟨v, .ty T, .type N, .type T, b, rfl, .ty T, RepQ.ty (w := w) r.sub hv ht, kit_ty hk, q1 G _ H1 (Sub.refl _) r (.bl _)⟩
theorem de_isi2 {T U : String} {x y z : Str} {p q q' qt : Pos} {k : Nat} (hg : Gl X x) (hm : X.mg x = none) (hv : bootBuiltins x = some (.builtin "isinstance")) (hgT : Gl X y) (hmT : X.mg y = none) (hvT : bootBuiltins y = some (.type T)) (hgU : Gl X z) (hmU : X.mg z = none) (hvU : bootBuiltins z = some (.type U)) (ha : DQ X WW a fa)
    (hn : x ≠ "__name__" := by decide) (hd : (x == ("__debug__" : Str)) = false := by decide) (hnT : y ≠ "__name__" := by decide) (hdT : (y == ("__debug__" : Str)) = false := by decide) (hnU : z ≠ "__name__" := by decide) (hdU : (z == ("__debug__" : Str)) = false := by decide)
    (hs : starEach (a :: [.Tuple [.Name y q, .Name z q'] k qt]) X.env = (false, eval a X.env) :: starEach [.Tuple [.Name y q, .Name z q'] k qt] X.env := by rfl) :
    DE X WW (.Call (.Name x p) [a, .Tuple [.Name y q, .Name z q'] k qt] [] pos) (eUn (isiD2 T U) fa) :=
  PEw (pe_callB call_isiT hg hm hv (pa_cons ha (pa_cons (pe_tup (pa_cons (pe_bltn (v := .ty T) hgT hmT hvT rfl hnT hdT) (pa_cons (pe_bltn (v := .ty U) hgU hmU hvU rfl hnU hdU) pa_nil))) pa_nil) hs) (hn := hn) (hdb := hd) (he := hs)) fun σ H Q q => (eq_w q).imp fun v H1 ⟨w, G, d, e, p, r, hv, q1⟩ => by
    refine ⟨by show 2 ≤ sizeLine; decide, fun t ht => ?_⟩
    have r2 := r.extra ht (.tup [.ty T, .ty U])
    unfold isiD2 at q1
    cases htt : tyN d with
    | none => simp only [htt] at q1; exact q1.elim
    | some N =>
      cases hk : kitB N T with
      | none => simp only [htt, hk, Option.bind] at q1; exact q1.elim
      | some b =>
        simp only [htt, hk, Option.bind] at q1
        have hv2 : RepQ (wd X w) G (upd H1 t (.tup [.ty T, .ty U])) v d := by
          rcases hv with hv | ⟨a, vs, ds, h1, h2, h3, h4⟩
          · exact .inl hv
          · exact .inr ⟨a, vs, ds, h1, h2, by rw [upd_ne (ne_of_none h3 ht)]; exact h3, h4⟩
        have ty := RepQ.ty (w := w) r2.sub hv2 htt
        cases b with
        | true =>
          simp only [if_true, optR] at q1
          exact ⟨v, t, [.ty T, .ty U], .type N, [.type T, .type U], true, rfl, upd_same, .cons (.ty T) (.cons (.ty U) .nil), ty, kitAny_cons (kit_ty hk) (fun z => nomatch z) (fun _ => rfl), q1 G _ _ (Sub.refl _) r2 (.bl _)⟩
        | false =>
          simp only [Bool.false_eq_true, if_false] at q1
          cases hk2 : kitB N U with
          | none => simp only [hk2, Option.map, optR] at q1; exact q1.elim
          | some b2 =>
            simp only [hk2, Option.map, optR] at q1
            exact ⟨v, t, [.ty T, .ty U], .type N, [.type T, .type U], b2, rfl, upd_same, .cons (.ty T) (.cons (.ty U) .nil), ty, kitAny_cons (kit_ty hk) (fun _ => kitAny_cons (kit_ty hk2) (fun z => by subst z; exact kitAny_nil) (fun z => z)) (fun z => nomatch z), q1 G _ _ (Sub.refl _) r2 (.bl _)⟩
end
end Pd

namespace PySem
namespace PdX
open PySem.W PySem.Calls PyProof.Rows PySem.HandSPX
section
variable {prog : Program} {w : World} {A : Around} {E : Value → Shared → Prop} {h : Heap} {g : Array GenState} {d : Drawn} {t : Nat} {os : OsState}
variable {nm q : Str} {C N : Addr} {bs bm : List Value} {hdct : Bool} {sn : List Str} {sub : List Value} {ab : Bool} {col : Option Bool} {dd : Option Addr} {k0 k1 k2 k3 k5 : Option Value}
theorem call_bound {u e t0 : Addr} {rest : List Value} {Q : Value → Shared → Prop} (hC : h.get? C = some (excClassObj nm q C N bs bm hdct sn sub ab col dd k0 k1 k2 k3 k5 "ValueError.__new__")) (he : h.get? e = some (excO C t0))
    (hu : h.get? u = some (kxs_mw "ValueError.__init__" e)) (hrest : rest.length ≤ sizeLine)
    (hq : ∀ h' t1, (∀ b o, b ≠ e → h.get? b = some o → h'.get? b = some o) → h'.get? e = some (excO C t1) → Q .none ⟨h', g, d, t, os⟩) : wpAny (model prog w) A (call (.ref u) rest) Q E ⟨h, g, d, t, os⟩ := by
  apply wpAny_call
  apply codeAny_of_tree
  show wpAny _ A.in1 (callAny (.ref u) ⟨rest, []⟩) _ _ _
  unfold callAny
  apply wpAny_bind
  apply wpAny_load hu
  simp only [kxs_mw, show (Value.type "method-wrapper" == Value.type "method" || Value.type "method-wrapper" == Value.type "builtin_function_or_method" || Value.type "method-wrapper" == Value.type "method-wrapper") = true by decide, if_true]
  refine KFB.if_so (by decide) (wpAny_bind (check_bound_init F.excBase_ValueError.toExcCallFacts hC he rfl (wpAny_bind (wpAny_pure (wpAny_pure ?_)))))
  refine ⟨Code.quiet_builtin _ (by decide +kernel), codeAny_builtin F.excBase_ValueError.initEntry ?_⟩
  rw [Around.under_plainId F.excBase_ValueError.init.plain _]
  wp_walk
  refine hq _ h.objs.size (fun b o hb ho => ?_) ?_
  · exact (Heap.get?_update_other _ _ (Ne.symm hb)).trans (Heap.get?_push_of_some _ ho)
  · exact (Heap.get?_update_self _ (Heap.get?_push_of_some _ he) rfl).trans rfl
end
section
variable {prog : Program} {w : World} {A : Around} {E : Value → Shared → Prop} {s : Shared} {K : Frag} {mg mb : Str → Option Value}
structure Xt (prog : Program) (K : Frag) (mg : Str → Option Value) (c : Str) (C fI cc cda : Addr) (fs : List Str) : Prop where
  gC : mg c = some (.ref C)
  cls : ∃ nm q N bs bm sn sub ab col dd k0 k1 k2 k3 k5, K.lookup C = some (excClassObj nm q C N bs bm true sn sub ab col dd k0 k1 k2 k3 k5 "ValueError.__new__") ∧ refsVE bm = true
  sa : findIn K (.ref C) "__setattr__" = some (some (.builtin "object.__setattr__"))
  ga : findIn K (.ref C) "__getattribute__" = some (some (.builtin "BaseException.__getattribute__"))
  gg : findIn K (.ref C) "__getattr__" = some none
  noN : ∀ f ∈ fs, findIn K (.ref C) f = some none
  iC : findIn K (.ref C) "__init__" = some (some (.ref fI))
  tC : typeIn K (.ref fI) = some (.type "function")
  kC : keepIn K (.ref C) = true
  exC : subIn K (.ref C) (.type "BaseException") = some true
  veC : subIn K (.ref C) (.type "ValueError") = some true
  tyC : typeIn K (.ref C) = some (.type "type")
  hdC : hasDictIn K C = true
  sup : ks_superIn K C C "__init__" = some (some (.builtin "ValueError.__init__"))
  noany : nsIn K cStatics "thirdparty.any" = some none
  self : mroIn K C (.ref C) = some true
  cell : ∃ cl cld csl, K.lookup cc = some ⟨cl, cld, .cell (some (.ref C)), csl⟩
  code : ∃ ccl cdd vs ccs file tf, K.lookup cda = some ⟨ccl, cdd, .fields vs, ccs⟩ ∧ vs[2]? = some (.str file tf) ∧ ((prog.main.file : Str) == file) = true
  top : (prog.main.scope.names.lookup ("super" : Str)).isSome = false
  nosup : mg "super" = none
structure Made (h h' : Heap) (e C d : Addr) (fs : List (Str × Value)) : Prop where
  keep : ∀ b o, h.get? b = some o → h'.get? b = some o
  new : h.objs.size ≤ e
  obj : ∃ oe vs, h'.get? e = some oe ∧ oe.cls = .ref C ∧ oe.dict = some d ∧ oe.data = .fields vs ∧ vs[1]? = some .none
  dbig : h.objs.size ≤ d
  dne : d ≠ e
  ns : h'.Ns1 d (fun y => fs.lookup y)
variable {c : Str} {C fI cc cda : Addr} {fs : List Str}
theorem super_step (T : Xt prog K mg c C fI cc cda fs) {x t0 : Addr} {vs : List Value} {scope : Scope} {qual : Str} {L : Addr} {m : Str → Option Value} {body : List Stmt} {fd : FuncData} {oc : Value} {od : Option Addr} {osl : Array (Option Value)} {ar : Arg} {e : Expr} {es : List Expr} {a1 a2 a3 a5 : Pos} {Q : Value → Shared → Prop}
    (X : K.In s.heap) (G : s.heap.Ns mainGlobals mg) (Bn : s.heap.Ns builtinsNs mb) (hb : ∀ x : Str, x ≠ "__name__" → mb x = bootBuiltins x) (hx : s.heap.get? x = some (excO C t0)) (hn : s.heap.Ns L m) (hf : K.lookup fI = some ⟨oc, od, .func fd, osl⟩) (hp : (fd.params.posonlyargs ++ fd.params.args).head? = some ar) (hv : m ar.arg = some (.ref x))
    (hks : scope.names.lookup ("super" : Str) = some .globalImplicit) (hkc : scope.names.lookup ("__class__" : Str) = some .free) (hka : scope.names.lookup ar.arg = some .local) (hk : scope.kind = .function) (hlen : vs.length ≤ sizeLine)
    (hargs : ∀ (h1 : Heap) (tk : Nat) (Q : List Value → Shared → Prop), (∀ b o, s.heap.get? b = some o → h1.get? b = some o) → (∀ tk', Q vs { s with heap := h1, toks := tk' }) → wpAny (model prog w) A (spliced (backTo a5 (starEach (e :: es) (ksEnv qual scope L fI (.ref cda) cc)))) Q E { s with heap := h1, toks := tk })
    (he : starEach (e :: es) (ksEnv qual scope L fI (.ref cda) cc) = (false, eval e (ksEnv qual scope L fI (.ref cda) cc)) :: starEach es (ksEnv qual scope L fI (.ref cda) cc)) (hpl : (backTo a5 (starEach es (ksEnv qual scope L fI (.ref cda) cc))).any (·.1) = false)
    {pl : Sem Bool} (heq : eval (.Call (.Attribute (.Call (.Name "super" a1) [] [] a2) "__init__" a3) (e :: es) [] a5) (ksEnv qual scope L fI (.ref cda) cc) = (do
      let ov ← attributeBase (.Call (.Name "super" a1) [] [] a2) "__init__" (ksEnv qual scope L fI (.ref cda) cc) (eval (.Call (.Name "super" a1) [] [] a2) (ksEnv qual scope L fI (.ref cda) cc))
      standAt a3.atName
      let (f, first) ← holding [ov] (getMethod ov "__init__" pl)
      callWith a5 f first (backTo a5 (starEach (e :: es) (ksEnv qual scope L fI (.ref cda) cc))) []))
    (hq : ∀ h' tk t1, (∀ b o, b ≠ x → s.heap.get? b = some o → h'.get? b = some o) → h'.get? x = some (excO C t1) → Q .none { s with heap := h', toks := tk }) :
    _root_.PySem.wpAt (model prog w) A (.func body (ksEnv qual scope L fI (.ref cda) cc)) (eval (.Call (.Attribute (.Call (.Name "super" a1) [] [] a2) "__init__" a3) (e :: es) [] a5) (ksEnv qual scope L fI (.ref cda) cc)) Q E s := by
  obtain ⟨nm, q, N, bs, bm, sn, sub, ab, col, dd, k0, k1, k2, k3, k5, hC, hbm⟩ := T.cls
  obtain ⟨cl, cld, csl, hcell⟩ := T.cell
  obtain ⟨ccl, cdd, cvs, ccs, file, tf, hcode, hvs, hfile⟩ := T.code
  have hcl : clsIn K C = some { name := nm, bases := bs, mro := .ref C :: bm, ns := N, qualname := q, hasDict := true, slotNames := sn, subclasses := sub, abstract := ab, collection := col, hasDel := false } := by unfold clsIn; rw [hC] <;> rfl
  obtain ⟨hh, g, dr, tk, os⟩ := s
  have I : InstAt hh x (excO C t0) C none := ⟨hx, rfl, rfl, trivial⟩
  have hI : Looks (model prog w) hh (isInstance (.ref x) (.type "ValueError")) true := I.type.andThen (looks_subIn X T.veC)
  refine ks_wpAt_MethodCall (pl := pl) ?_ heq
  refine ks_wpAt_super_base (env := ksEnv qual scope L fI (.ref cda) cc) hks hkc rfl rfl (X _ _ hf) rfl hp rfl (X _ _ hcode) rfl hvs hfile T.top ?_
  refine ks_loadName_global hk hks (loadGlobal_builtin (env := ksEnv qual scope L fI (.ref cda) cc) G T.nosup Bn ((hb _ (by decide +kernel)).trans (by decide +kernel)) ⟨rfl, ?_⟩)
  refine wpAny_loadName_free hk hkc rfl ⟨_, X _ _ hcell, rfl⟩ (wpAny_loadName_local hk hka hn hv ?_)
  refine ks_wpAny_isType_cls (X _ _ hC) rfl ⟨rfl, ks_wpAny_call_super (X _ _ hC) rfl hx rfl (fun c e => nomatch e) (looks_mroIn X T.self) fun h1 e1 k1 => ?_⟩
  have hm := T.sup
  unfold ks_superIn at hm
  rw [hcl] at hm
  refine kxs_getMethod kxs_ValueError e1 (looks_opaque (X.keeps k1) T.noany) (l₀ := .ref C :: bm) (fun A Q E s k q => wpAny_bind ((looks_clsIn (X.keeps k1) hcl) A _ E s k (wpAny_pure q))) rfl (X.keeps k1) hm (hI.keeps k1) (ks_ne X I hcl) (by decide +kernel) ?_
  have k2 : ∀ b o, hh.get? b = some o → (h1.push (kxs_mw "ValueError.__init__" x)).get? b = some o := fun b o e => Heap.get?_push_of_some _ (k1 b o e)
  have hu : (h1.push (kxs_mw "ValueError.__init__" x)).get? h1.objs.size = some (kxs_mw "ValueError.__init__" x) := Heap.get?_push_at rfl rfl
  rw [he]
  refine kxs_callWith (i := "ValueError.__init__") (x := x) (by show (false || (backTo a5 (starEach es (ksEnv qual scope L fI (.ref cda) cc))).any (·.1)) = false; rw [hpl]; rfl) (evalArgs_plain ?_)
  have ha := hargs _ (tk + 1) (fun vs s₁ => KxsAt "ValueError.__init__" h1.objs.size x s₁.heap ∧ wpAny (model prog w) A (call (.ref h1.objs.size) vs) Q E s₁) k2 fun tk' => ⟨hu, call_bound ((X.keeps k2) _ _ hC) (k2 _ _ hx) hu hlen fun h' t1 k3 hx' => hq h' tk' t1 (fun b o hb ho => k3 b o hb (k2 b o ho)) hx'⟩
  rw [he] at ha
  exact ha
def iA1 (n : Str) (p0 p1 : Pos) : Arguments := { posonlyargs := [], args := [{ arg := "self", annotation := none, pos := p0 }, { arg := n, annotation := none, pos := p1 }], vararg := none, kwonlyargs := [], kw_defaults := [], kwarg := none, defaults := [] }
def iA2 (n m : Str) (p0 p1 p2 : Pos) : Arguments := { posonlyargs := [], args := [{ arg := "self", annotation := none, pos := p0 }, { arg := n, annotation := none, pos := p1 }, { arg := m, annotation := none, pos := p2 }], vararg := none, kwonlyargs := [], kw_defaults := [], kwarg := none, defaults := [] }
def iSt (n : Str) (c1 c2 c3 c4 : Pos) : Stmt := .Assign [.Attribute (.Name "self" c1) n c2] (.Name n c3) c4
def iSup (es : List Expr) (a1 a2 a3 a5 a6 : Pos) : Stmt := .Expr (.Call (.Attribute (.Call (.Name "super" a1) [] [] a2) "__init__" a3) es [] a5) a6
def iS1 (n : Str) : Scope := { kind := .function, names := [("self", .local), (n, .local), ("__class__", .free), ("super", .globalImplicit)], isGenerator := false, isCoroutine := false, more := [] }
def iS2 (n m : Str) : Scope := { kind := .function, names := [("self", .local), (n, .local), (m, .local), ("__class__", .free), ("super", .globalImplicit)], isGenerator := false, isCoroutine := false, more := [] }
structure InitEnd (h h' : Heap) (x C dx t1 : Addr) (fs : List (Str × Value)) : Prop where
  keep : ∀ b o, b ≠ x → h.get? b = some o → h'.get? b = some o
  obj : h'.get? x = some { cls := .ref C, dict := some dx, data := .fields #[.ref t1, .none, .none, .none, .bool false, .none] }
  dbig : h.objs.size ≤ dx
  dne : dx ≠ x
  ns : h'.Ns1 dx (fun y => fs.lookup y)
theorem ldK {qual : Str} {scope : Scope} {L f cc : Addr} {cd : Value} {m : Str → Option Value} {x : Str} {pos : Pos} {v : Value} {Q : Value → Shared → Prop} {M : Model} (hn : s.heap.Ns L m) (hv : m x = some v) (h : Q v s)
    (hk : scope.kind = .function) (hl : scope.names.lookup x = some .local) (hd : (x == ("__debug__" : Str)) = false) :
    wpAny M A (eval (.Name x pos) (ksEnv qual scope L f cd cc)) Q E s := wpAny_Name (wpAny_loadName_local hk hl hn hv h) hd
def SupEq (es : List Expr) (a1 a2 a3 a5 : Pos) (mk : Addr → Env) : Prop := ∃ pl : Addr → Sem Bool, ∀ L, eval (.Call (.Attribute (.Call (.Name "super" a1) [] [] a2) "__init__" a3) es [] a5) (mk L) = (do
      let ov ← attributeBase (.Call (.Name "super" a1) [] [] a2) "__init__" (mk L) (eval (.Call (.Name "super" a1) [] [] a2) (mk L))
      standAt a3.atName
      let (f, first) ← holding [ov] (getMethod ov "__init__" (pl L))
      callWith a5 f first (backTo a5 (starEach es (mk L))) [])
theorem sizes1 (v : Value) : [v].length ≤ sizeLine := by rw [sizeLine_eq]; exact (by decide : 1 ≤ 16777216)
theorem sizes2 (v u : Value) : [v, u].length ≤ sizeLine := by rw [sizeLine_eq]; exact (by decide : 2 ≤ 16777216)
theorem init1 {n : Str} (T : Xt prog K mg c C fI cc cda [n]) {x t0 : Addr} {v : Value} {R : Result → Shared → Prop} {qual : Str} {doc pm ct oc : Value} {od an : Option Addr} {osl : Array (Option Value)} {p0 p1 a1 a2 a3 a5 a6 b1 c1 c2 c3 c4 : Pos}
    (ho : K.lookup fI = some ⟨oc, od, .func (ksFn "__init__" qual (iA1 n p0 p1) [iSup [.Name n b1] a1 a2 a3 a5 a6, iSt n c1 c2 c3 c4] (iS1 n) .none .none doc pm an (.ref cda) ct cc), osl⟩) (hcd : codeIn K (.ref cda) qual = true)
    (X : K.In s.heap) (hlim : s.heap.NoLimit) (G : s.heap.Ns mainGlobals mg) (Bn : s.heap.Ns builtinsNs mb) (hb : ∀ x : Str, x ≠ "__name__" → mb x = bootBuiltins x) (hx : s.heap.get? x = some (excO C t0)) (hnx : K.lookup x = none) (hroom : A.depth < recursionLimit)
    (n0 : (iS1 n).names.lookup n = some .local) (n1 : (iS1 n).names.lookup ("__class__" : Str) = some .free) (n2 : (iS1 n).names.lookup ("super" : Str) = some .globalImplicit) (n3 : (n == ("self" : Str)) = false) (n4 : (n == ("__debug__" : Str)) = false) (n5 : (iS1 n).names.lookup ("self" : Str) = some .local) (n6 : ∀ x ∈ (iS1 n).names, x.2 ≠ .cell)
    (heq : SupEq [.Name n b1] a1 a2 a3 a5 fun L => ksEnv qual (iS1 n) L fI (.ref cda) cc)
    (hbind : BindsTo s (ksFn "__init__" qual (iA1 n p0 p1) [iSup [.Name n b1] a1 a2 a3 a5 a6, iSt n c1 c2 c3 c4] (iS1 n) .none .none doc pm an (.ref cda) ct cc) ⟨[.ref x, v], []⟩ [("self", .ref x), (n, v)])
    (hq : ∀ h' tk dx t1, InitEnd s.heap h' x C dx t1 [(n, v)] → R (.ok (.ret .none)) { s with heap := h', toks := tk }) :
    codeAny (model prog w) A (.call (.ref fI) ⟨[.ref x, v], []⟩) R s := by
  obtain ⟨pl, hpl⟩ := heq
  obtain ⟨nm, q, N, bs, bm, sn, sub, ab, col, dd, k0, k1, k2, k3, k5, hC, hbm⟩ := T.cls
  have hcl : clsIn K C = some { name := nm, bases := bs, mro := .ref C :: bm, ns := N, qualname := q, hasDict := true, slotNames := sn, subclasses := sub, abstract := ab, collection := col, hasDel := false } := by unfold clsIn; rw [hC] <;> rfl
  have l0 : ([("self", .ref x), (n, v)] : List (Str × Value)).reverse.lookup n = some v := by simp [List.lookup]
  have l1 : ([("self", .ref x), (n, v)] : List (Str × Value)).reverse.lookup ("self" : Str) = some (.ref x) := by
    have : (("self" : Str) == n) = false := by
      have := n3
      simp only [beq_eq_false_iff_ne, ne_eq] at this ⊢
      exact fun z => this z.symm
    simp [List.lookup, this]
  refine ks_codeAny_call_defAt hroom (X _ _ ho) rfl hlim (codeRec_of X hcd) rfl hbind n6 (fun y hy => ?_) (fun h₁ hns hk₁ => ?_) rfl rfl rfl
  · rcases List.mem_cons.mp hy with rfl | hy
    · exact n5
    · obtain rfl := List.mem_singleton.mp hy
      exact n0
  have X₁ : K.In h₁ := X.keeps hk₁
  have hxL : s.heap.objs.size ≠ x := Nat.ne_of_gt (Heap.lt_size hx)
  have gk : ∀ {b o}, (s.heap.get? b = some o) → h₁.get? b = some o := fun e => hk₁ _ _ e
  refine ks_wpAt_execs_cons (ks_wpAt_Expr_any ?_)
  refine super_step (s := { s with heap := h₁, toks := _ }) (K := K) (mg := mg) (mb := mb) (c := c) (C := C) (fI := fI) (cc := cc) (cda := cda) (fs := [n]) (x := x) (t0 := t0) (vs := [v]) T X₁ (G.keeps hk₁) (Bn.keeps hk₁) hb (gk hx) hns ho rfl l1 n2 n1 n5 rfl (sizes1 v) (fun h2 tk Q kk hq2 => ?_) rfl rfl (hpl _) (fun h2 tk t1 kk hx2 => ?_)
  · exact Calls.spliced_cons (ldK (s := { s with heap := h2, toks := tk }) (hns.keeps kk) l0 (Calls.spliced_nil (hq2 _)) rfl n0 n4)
  show _root_.PySem.wpAt _ _ _ _ _ _ _
  have k2 : ∀ b o, b ≠ x → s.heap.get? b = some o → h2.get? b = some o := fun b o hb e => kk b o hb (hk₁ b o e)
  have X2 : K.In h2 := fun a o e => kk a o (fun z => by rw [z, hnx] at e; cases e) (X₁ a o e)
  have hns2 : h2.Ns s.heap.objs.size _ := let ⟨o, es, ep, e, d, r⟩ := hns; ⟨o, es, ep, kk _ _ hxL e, d, r⟩
  refine ks_wpAt_execs_cons (ks_wpAt_Assign_Attr ?_)
  refine wpAt_of_wpAny (ldK (s := { s with heap := h2, toks := tk }) hns2 l0 ?_ rfl n0 n4)
  refine ldK (s := { s with heap := h2, toks := tk }) hns2 l1 ?_ rfl n5 (by decide)
  refine set_plain X2 (ox := excO C t1) (od := none) ⟨hx2, rfl, rfl, trivial⟩ T.sa ?_
  refine exc_osa X2 hx2 hcl (show refsVE (.ref C :: bm) = true from hbm) rfl (T.noN n (List.mem_singleton.mpr rfl)) (fun h₃ tk₃ dx k₃ dn dne hx₃ hn₃ => ?_)
  show _root_.PySem.wpAt _ _ _ _ _ _ _
  refine wpAt_of_wpAny (wpAny_of_eq (execs_nil _) ?_)
  have z : s.heap.objs.size < h2.objs.size := hns2.lt
  have ef : (fun y : Str => ([(n, v)] : List (Str × Value)).lookup y) = (fun y => if y = n then some v else none) := by
    funext y
    by_cases hy : y = n
    · rw [if_pos hy, hy]
      simp [List.lookup]
    · have : (y == n) = false := by simpa using hy
      rw [if_neg hy]
      simp [List.lookup, this]
  exact hq h₃ tk₃ dx t1 ⟨fun b o hb e => k₃ b o hb (k2 b o hb e), hx₃, Nat.le_of_lt (Nat.lt_of_lt_of_le z dn), dne, by rw [ef]; exact hn₃⟩
theorem init2 {n m : Str} (T : Xt prog K mg c C fI cc cda [n, m]) {x t0 : Addr} {v u : Value} {R : Result → Shared → Prop} {qual : Str} {doc pm ct oc : Value} {od an : Option Addr} {osl : Array (Option Value)} {p0 p1 p2 a1 a2 a3 a5 a6 b1 b2 c1 c2 c3 c4 d1 d2 d3 d4 : Pos}
    (ho : K.lookup fI = some ⟨oc, od, .func (ksFn "__init__" qual (iA2 n m p0 p1 p2) [iSup [.Name n b1, .Name m b2] a1 a2 a3 a5 a6, iSt n c1 c2 c3 c4, iSt m d1 d2 d3 d4] (iS2 n m) .none .none doc pm an (.ref cda) ct cc), osl⟩) (hcd : codeIn K (.ref cda) qual = true)
    (X : K.In s.heap) (hlim : s.heap.NoLimit) (G : s.heap.Ns mainGlobals mg) (Bn : s.heap.Ns builtinsNs mb) (hb : ∀ x : Str, x ≠ "__name__" → mb x = bootBuiltins x) (hx : s.heap.get? x = some (excO C t0)) (hnx : K.lookup x = none) (hroom : A.depth < recursionLimit)
    (n0 : (iS2 n m).names.lookup n = some .local) (m0 : (iS2 n m).names.lookup m = some .local) (n1 : (iS2 n m).names.lookup ("__class__" : Str) = some .free) (n2 : (iS2 n m).names.lookup ("super" : Str) = some .globalImplicit) (n3 : (n == ("self" : Str)) = false) (m3 : (m == ("self" : Str)) = false) (nm3 : (n == m) = false) (n4 : (n == ("__debug__" : Str)) = false) (m4 : (m == ("__debug__" : Str)) = false) (n5 : (iS2 n m).names.lookup ("self" : Str) = some .local) (n6 : ∀ x ∈ (iS2 n m).names, x.2 ≠ .cell)
    (heq : SupEq [.Name n b1, .Name m b2] a1 a2 a3 a5 fun L => ksEnv qual (iS2 n m) L fI (.ref cda) cc)
    (hbind : BindsTo s (ksFn "__init__" qual (iA2 n m p0 p1 p2) [iSup [.Name n b1, .Name m b2] a1 a2 a3 a5 a6, iSt n c1 c2 c3 c4, iSt m d1 d2 d3 d4] (iS2 n m) .none .none doc pm an (.ref cda) ct cc) ⟨[.ref x, v, u], []⟩ [("self", .ref x), (n, v), (m, u)])
    (hq : ∀ h' tk dx t1, InitEnd s.heap h' x C dx t1 [(n, v), (m, u)] → R (.ok (.ret .none)) { s with heap := h', toks := tk }) :
    codeAny (model prog w) A (.call (.ref fI) ⟨[.ref x, v, u], []⟩) R s := by
  obtain ⟨pl, hpl⟩ := heq
  obtain ⟨nm, q, N, bs, bm, sn, sub, ab, col, dd, k0, k1, k2, k3, k5, hC, hbm⟩ := T.cls
  have hcl : clsIn K C = some { name := nm, bases := bs, mro := .ref C :: bm, ns := N, qualname := q, hasDict := true, slotNames := sn, subclasses := sub, abstract := ab, collection := col, hasDel := false } := by unfold clsIn; rw [hC] <;> rfl
  have sw : ∀ {a b : Str}, (a == b) = false → (b == a) = false := fun {a b} h => by
    simp only [beq_eq_false_iff_ne, ne_eq] at h ⊢
    exact fun z => h z.symm
  have l0 : ([("self", .ref x), (n, v), (m, u)] : List (Str × Value)).reverse.lookup n = some v := by simp [List.lookup, nm3]
  have lm : ([("self", .ref x), (n, v), (m, u)] : List (Str × Value)).reverse.lookup m = some u := by simp [List.lookup]
  have l1 : ([("self", .ref x), (n, v), (m, u)] : List (Str × Value)).reverse.lookup ("self" : Str) = some (.ref x) := by
    simp [List.lookup, sw n3, sw m3]
  refine ks_codeAny_call_defAt hroom (X _ _ ho) rfl hlim (codeRec_of X hcd) rfl hbind n6 (fun y hy => ?_) (fun h₁ hns hk₁ => ?_) rfl rfl rfl
  · rcases List.mem_cons.mp hy with rfl | hy
    · exact n5
    · rcases List.mem_cons.mp hy with rfl | hy
      · exact n0
      · obtain rfl := List.mem_singleton.mp hy
        exact m0
  have X₁ : K.In h₁ := X.keeps hk₁
  have hxL : s.heap.objs.size ≠ x := Nat.ne_of_gt (Heap.lt_size hx)
  have gk : ∀ {b o}, (s.heap.get? b = some o) → h₁.get? b = some o := fun e => hk₁ _ _ e
  refine ks_wpAt_execs_cons (ks_wpAt_Expr_any ?_)
  refine super_step (s := { s with heap := h₁, toks := _ }) (K := K) (mg := mg) (mb := mb) (c := c) (C := C) (fI := fI) (cc := cc) (cda := cda) (fs := [n, m]) (x := x) (t0 := t0) (vs := [v, u]) T X₁ (G.keeps hk₁) (Bn.keeps hk₁) hb (gk hx) hns ho rfl l1 n2 n1 n5 rfl (sizes2 v u) (fun h2 tk Q kk hq2 => ?_) rfl rfl (hpl _) (fun h2 tk t1 kk hx2 => ?_)
  · exact Calls.spliced_cons (ldK (s := { s with heap := h2, toks := tk }) (hns.keeps kk) l0 (Calls.spliced_cons (ldK (s := { s with heap := h2, toks := tk }) (hns.keeps kk) lm (Calls.spliced_nil (hq2 _)) rfl m0 m4)) rfl n0 n4)
  show _root_.PySem.wpAt _ _ _ _ _ _ _
  have k2 : ∀ b o, b ≠ x → s.heap.get? b = some o → h2.get? b = some o := fun b o hb e => kk b o hb (hk₁ b o e)
  have X2 : K.In h2 := fun a o e => kk a o (fun z => by rw [z, hnx] at e; cases e) (X₁ a o e)
  have hns2 : h2.Ns s.heap.objs.size _ := let ⟨o, es, ep, e, d, r⟩ := hns; ⟨o, es, ep, kk _ _ hxL e, d, r⟩
  refine ks_wpAt_execs_cons (ks_wpAt_Assign_Attr ?_)
  refine wpAt_of_wpAny (ldK (s := { s with heap := h2, toks := tk }) hns2 l0 ?_ rfl n0 n4)
  refine ldK (s := { s with heap := h2, toks := tk }) hns2 l1 ?_ rfl n5 (by decide)
  refine set_plain X2 (ox := excO C t1) (od := none) ⟨hx2, rfl, rfl, trivial⟩ T.sa ?_
  refine exc_osa X2 hx2 hcl (show refsVE (.ref C :: bm) = true from hbm) rfl (T.noN n List.mem_cons_self) (fun h₃ tk₃ dx k₃ dn dne hx₃ hn₃ => ?_)
  show _root_.PySem.wpAt _ _ _ _ _ _ _
  have z : s.heap.objs.size < h2.objs.size := hns2.lt
  have X3 : K.In h₃ := fun a o e => k₃ a o (fun z => by rw [z, hnx] at e; cases e) (X2 a o e)
  have hns3 : h₃.Ns s.heap.objs.size _ := let ⟨o, es, ep, e, d, r⟩ := hns2; ⟨o, es, ep, k₃ _ _ hxL e, d, r⟩
  have hxn : K.lookup dx = none := by
    cases e : K.lookup dx with
    | none => rfl
    | some o => exact absurd (Heap.lt_size (X2 _ _ e)) (Nat.not_lt.mpr dn)
  refine ks_wpAt_execs_cons (ks_wpAt_Assign_Attr ?_)
  refine wpAt_of_wpAny (ldK (s := { s with heap := h₃, toks := tk₃ }) hns3 lm ?_ rfl m0 m4)
  refine ldK (s := { s with heap := h₃, toks := tk₃ }) hns3 l1 ?_ rfl n5 (by decide)
  have hI : ∃ od, h₃.get? dx = some od := by
    obtain ⟨o, _, _, e', _⟩ := hn₃
    exact ⟨o, e'⟩
  obtain ⟨od3, hod3⟩ := hI
  refine set_plain X3 (ox := { cls := .ref C, dict := some dx, data := .fields #[.ref t1, .none, .none, .none, .bool false, .none] }) (od := some od3) ⟨hx₃, rfl, rfl, hod3⟩ T.sa ?_
  refine PySem.OEX.osa_old (nl := [n]) X3 hx₃ hn₃ (fun y hy => ?_) (by show 1 ≤ 1000; decide) hcl (show refsVE (.ref C :: bm) = true from hbm) rfl (T.noN m (by simp)) (fun h4 tk4 k4 hn4 => ?_)
  · by_cases q : y = n
    · rw [q]; exact List.mem_cons_self
    · rw [if_neg q] at hy
      exact absurd rfl hy
  show _root_.PySem.wpAt _ _ _ _ _ _ _
  refine wpAt_of_wpAny (wpAny_of_eq (execs_nil _) ?_)
  have dxs : ∀ {b o}, h2.get? b = some o → b ≠ dx := fun {b o} e => Nat.ne_of_lt (Nat.lt_of_lt_of_le (Heap.lt_size e) dn)
  refine hq h4 tk4 dx t1 ⟨fun b o hb e => k4 b o (dxs (k2 b o hb e)) (k₃ b o hb (k2 b o hb e)), k4 _ _ (fun z => dne z.symm) hx₃, Nat.le_of_lt (Nat.lt_of_lt_of_le z dn), dne, ?_⟩
  have ef : (fun y : Str => ([(n, v), (m, u)] : List (Str × Value)).lookup y) = (fun y => if y = m then some u else if y = n then some v else none) := by
    funext y
    by_cases hm : y = m
    · rw [if_pos hm, hm]
      simp [List.lookup, sw nm3]
    · have q1 : (y == m) = false := by simpa using hm
      rw [if_neg hm]
      by_cases hy : y = n
      · rw [if_pos hy, hy]
        simp [List.lookup]
      · have : (y == n) = false := by simpa using hy
        rw [if_neg hy]
        simp [List.lookup, this, q1]
  rw [ef]
  exact hn4
def Initd (prog : Program) (w : World) (K : Frag) (mg : Str → Option Value) (C fI : Addr) (names : List Str) : Prop :=
  ∀ (A : Around) (s : Shared) (mb : Str → Option Value) (x t0 : Addr) (vs : List Value) (R : Result → Shared → Prop), vs.length = names.length → K.In s.heap → s.heap.NoLimit → s.heap.Ns mainGlobals mg → s.heap.Ns builtinsNs mb → (∀ x : Str, x ≠ "__name__" → mb x = bootBuiltins x) →
    s.heap.get? x = some (excO C t0) → K.lookup x = none → A.depth < recursionLimit →
    (∀ h' tk dx t1, InitEnd s.heap h' x C dx t1 (names.zip vs) → R (.ok (.ret .none)) { s with heap := h', toks := tk }) → codeAny (model prog w) A (.call (.ref fI) ⟨.ref x :: vs, []⟩) R s
theorem made (T : Xt prog K mg c C fI cc cda fs) (I : Initd prog w K mg C fI fs) {vs : List Value} {R : Result → Shared → Prop} (hl : vs.length = fs.length) (hs : vs.length ≤ sizeLine) (X : K.In s.heap) (hlim : s.heap.NoLimit) (G : s.heap.Ns mainGlobals mg) (Bn : s.heap.Ns builtinsNs mb) (hb : ∀ x : Str, x ≠ "__name__" → mb x = bootBuiltins x) (hroom : A.depth + 1 < recursionLimit)
    (hq : ∀ h' tk e d, Made s.heap h' e C d (fs.zip vs) → R (.ok (.ret (.ref e))) { s with heap := h', toks := tk }) :
    codeAny (model prog w) A (.call (.ref C) ⟨vs, []⟩) R s := by
  obtain ⟨nm, q, N, bs, bm, sn, sub, ab, col, dd, k0, k1, k2, k3, k5, hC, hbm⟩ := T.cls
  obtain ⟨hp, g, dr, tk, os⟩ := s
  have k : ∀ b o, hp.get? b = some o → ((hp.push (kdv_tup vs)).push (excO C hp.objs.size)).get? b = some o := fun b o e => Heap.get?_push_of_some _ (Heap.get?_push_of_some _ e)
  have hget : ((hp.push (kdv_tup vs)).push (excO C hp.objs.size)).get? (hp.objs.size + 1) = some (excO C hp.objs.size) := by heap_get
  have hnx : K.lookup (hp.objs.size + 1) = none := by
    cases e : K.lookup (hp.objs.size + 1) with
    | none => rfl
    | some o =>
      have z : hp.get? (hp.objs.size + 1) = some o := X _ _ e
      exact absurd (Nat.lt_of_succ_lt (Heap.lt_size z)) (Nat.lt_irrefl _)
  refine call_own F.excBase_ValueError (fun X => refsVE_contains X bm hbm) (X _ _ hC) (looks_findIn X T.iC) (fun self => bind_fn X self T.tC) hs ?_
  refine I _ ⟨(hp.push (kdv_tup vs)).push (excO C hp.objs.size), g, dr, tk, os⟩ mb _ _ vs _ hl (X.keeps k) (hlim.keeps k) (G.keeps k) (Bn.keeps k) hb hget hnx ?_ fun h' tk' dx t1 ⟨k', hx, dn, dne, hns⟩ => ?_
  · show A.depth + 1 < recursionLimit
    exact hroom
  · have old : ∀ b o, hp.get? b = some o → h'.get? b = some o := fun b o e => k' b o (Nat.ne_of_lt (Nat.lt_succ_of_lt (Heap.lt_size e))) (k b o e)
    have z : hp.objs.size + 1 + 1 ≤ dx := by
      first
        | (simpa only [Heap.size_push] using dn)
        | exact dn
        | (have q := dn; rw [Heap.size_push, Heap.size_push] at q; exact q)
    exact ⟨rfl, hq h' tk' (hp.objs.size + 1) dx ⟨old, Nat.le_succ _, ⟨_, _, hx, rfl, rfl, rfl, rfl⟩, Nat.le_trans (Nat.le_trans (Nat.le_succ _) (Nat.le_succ _)) z, dne, hns⟩⟩
end
end PdX
end PySem

namespace Pd
open PySem PySem.Spec L2 PyProof.Rows
section
variable {X : Cx} {WW : WX} {c : Str} {C fI cc cda : Addr} {fs : List Str} {σ : L2.St} {H : Hp}
theorem relO_zip : ∀ {vs : List V} {us : List Value}, Vals vs us → ∀ (ns : List Str) (f : Str), RelO ((ns.zip vs).lookup f) ((ns.zip us).lookup f)
  | _, _, .nil, ns, f => by cases ns <;> exact trivial
  | _, _, .cons h r, [], f => trivial
  | _, _, .cons h r, n :: ns, f => by
    simp only [List.zip_cons_cons, List.lookup_cons]
    cases e : f == n with
    | true => exact h
    | false => exact relO_zip r ns f
def tMkX (C : Addr) (ns : List Str) (ta : TA) : L2.St → Hp → XK → Prop := fun σ H Q => ta σ H fun vs H1 => vs.length = ns.length ∧ vs.length ≤ sizeLine ∧ ∀ d, H1 d = none → Q (.ref C) (some d) (upd H1 d (.xd (ns.zip vs)))
theorem pmk_x {a : Expr} {es : List Expr} {ta : TA} {p pos : Pos} {k : Nat} (T : PdX.Xt X.prog X.K X.mg c C fI cc cda fs) (Ini : PdX.Initd X.prog X.w X.K X.mg C fI fs) (hr : Room (k + 1) X.A) (ha : PA X (a :: es) ta) (hcd : (c == ("__debug__" : Str)) = false) (hg : Gl X c := by rfl)
    (he : starEach (a :: es) X.env = (false, eval a X.env) :: starEach es X.env := by rfl) (hpl : (backTo pos (starEach es X.env)).any (·.1) = false := by rfl) :
    PMk X (.Call (.Name c p) (a :: es) [] pos) (tMkX C fs ta) := by
  intro pins s σ H Q I h
  refine wpAny_Call_Name_kw (ld_glob I hg T.gC ?_ hcd)
  refine PySem.W.callWith_K (h₀ := X.base) I.ok.mod.kin T.kC (thn (ha.run pos pins s σ H _ I h) fun us s1 hh => ?_) he hpl
  obtain ⟨vs, H1, I1, r1, hl, hsz, q1⟩ := hh
  refine ⟨I1.kIn, ?_⟩
  show wpAny _ _ (call (.ref C) us) _ _ _
  have hlim := I1.nolimit
  have hG := I1.ok.mod.glob.keeps I1.bk
  obtain ⟨mb, hB, hbb⟩ := I1.ok.mod.blt
  have hB := hB.keeps I1.bk
  have hk := I1.kIn
  obtain ⟨hp, g, dr, tk, os⟩ := s1
  refine wpAny_call (PdX.made T Ini (s := ⟨hp, g, dr, tk, os⟩) (mb := mb) (by rw [← r1.length]; exact hl) (by rw [← r1.length]; exact hsz) hk hlim hG hB hbb (by have := hr.dp; omega) fun h' tk' e d M => ?_)
  show MkP X pins σ Q (.ref e) ⟨h', g, dr, tk', os⟩
  obtain ⟨oe, fv, hoe, hc, hd, hdat, h1⟩ := M.obj
  have hns := M.ns
  obtain ⟨G', g1, g2⟩ := restrict h' fun b => decide (b ≠ e)
  have gk : ∀ b, b ≠ e → G'.get? b = h'.get? b := fun b hb => g1 b (decide_eq_true hb)
  have ge : G'.get? e = none := g2 e (by simp)
  have old : ∀ b o, hp.get? b = some o → G'.get? b = some o := fun b o q => (gk b (Nat.ne_of_lt (Nat.lt_of_lt_of_le (Heap.lt_size q) M.new))).trans (M.keep b o q)
  have ob : ObjOk X.prog X.w (upd H1 d (.xd (fs.zip vs))) G' d (.xd (fs.zip vs)) :=
    ⟨_, hns.at (fun o q => (gk d M.dne).trans q), fun f => relO_zip r1 fs f⟩
  have J : Inv X pins σ (upd H1 d (.xd (fs.zip vs))) ⟨G', g, dr, tk', os⟩ := I1.laid (t' := tk') old M.dbig ob
  refine ⟨e, oe, fv, ⟨G', g, dr, tk', os⟩, _, .ref C, some d, rfl, J, fun b o q => ?_, ge, hoe, ⟨hc, hd⟩, hdat, h1, ?_, rfl, I1.bare, raises_own T.exC T.tyC, q1 d (I1.hok.fresh M.dbig)⟩
  · by_cases hb : b = e
    · have q' : G'.get? b = some o := q
      rw [hb, ge] at q'; cases q'
    · exact (gk b hb).symm.trans q
  · rw [upd_ne (Ne.symm M.dne)]
    exact I1.hok.fresh M.new
def sRaise (c : Str) (ns : List Str) (f : AM) : SM := fun e p => toS (f e p) fun ds e p => if ds.length = ns.length then .exc ⟨c, ns.zip ds⟩ e p else .bad
theorem as_w {k : List D → Ev → Pen → SR} {fa : AM} {σ : L2.St} {H : Hp} {D : Ends} (q : tS X WW (fun e p => toS (fa e p) k) D σ H) :
    tA X WW fa σ H fun v H1 => ∃ w G d e p, R (wd X w) G e p σ H1 ∧ RepsW (wd X w) G v d ∧ PostS (wd X w) WW D G (k d e p) := by
  obtain ⟨w, G, e, p, r, q⟩ := q
  have q : PostS (wd X w) WW D G (toS (fa e p) k) := q
  refine ⟨w, G, e, p, r, ?_⟩
  generalize fa e p = ra at q ⊢
  cases ra with
  | bad => exact q
  | exc x e1 p1 => exact fun G1 c d H1 s1 r1 => q G1 c d σ H1 s1 r1
  | ok d e1 p1 => exact fun G1 v H1 s1 r1 hv => ⟨w, G1, d, e1, p1, r1, hv, PostS.mono q s1⟩
theorem zip_fst {α β : Type} : ∀ {a : List α} {b : List β}, b.length = a.length → (a.zip b).map (·.1) = a
  | [], [], _ => rfl
  | a :: as, b :: bs, h => by simp only [List.zip_cons_cons, List.map_cons]; rw [zip_fst (by simpa using h)]
theorem zip_snd {α β : Type} : ∀ {a : List α} {b : List β}, b.length = a.length → (a.zip b).map (·.2) = b
  | [], [], _ => rfl
  | a :: as, b :: bs, h => by simp only [List.zip_cons_cons, List.map_cons]; rw [zip_snd (by simpa using h)]
theorem ds_raise {a : Expr} {es : List Expr} {fa : AM} {p pos pos2 : Pos} {k : Nat} (hc : X.calm = true) (tk : Takes X WW) (T : PdX.Xt X.prog X.K X.mg c C fI cc cda fs) (Ini : PdX.Initd X.prog X.w X.K X.mg C fI fs) (hr : Room (k + 1) X.A) (h1 : fs.length ≤ 100) (ha : DA X WW (a :: es) fa) (hcd : (c == ("__debug__" : Str)) = false) (hg : Gl X c := by rfl)
    (he : starEach (a :: es) X.env = (false, eval a X.env) :: starEach es X.env := by rfl) (hpl : (backTo pos (starEach es X.env)).any (·.1) = false := by rfl) :
    DS X WW (.Raise (some (.Call (.Name c p) (a :: es) [] pos)) none pos2) (sRaise c fs fa) := PSw (ps_raise hc tk (pmk_x T Ini hr ha hcd hg he hpl)) fun D σ H q => (as_w q).imp fun vs H1 ⟨w, G, ds, e, p, r, hv, q1⟩ => by
  by_cases hl : ds.length = fs.length
  · rw [if_pos hl] at q1
    refine ⟨hv.length.trans hl, ?_, fun d hd => ?_⟩
    · have := hv.length.trans hl
      rw [this, sizeLine_eq]
      omega
    · refine q1 (upd G d (.xd (fs.zip vs))) (.ref C) (some d) σ _ (Sub.new (r.base.free hd).2.1) (r.alloc hd) ⟨C, T.gC, rfl, .inr ⟨d, _, rfl, upd_same, ?_, ?_⟩⟩
      · rw [zip_fst (hv.length.trans hl), zip_fst hl]
      · rw [zip_snd (hv.length.trans hl), zip_snd hl]
        exact hv.mono (Sub.new (r.base.free hd).2.1)
  · rw [if_neg hl] at q1
    exact q1.elim
end
end Pd

namespace Pd
open PySem PySem.Spec L2 PyProof.Rows
def showOk (d : D) : Bool := d.pl 60 && d.py.showable && decide (d.py.depth ≤ 100) && decide (d.py.shown.length ≤ 10000000)
def reprD (d : D) : Option D := if showOk d = true then some (.str d.py.shown) else none
section
mutual
theorem py_noDict : ∀ d : D, d.py.hasDict = false
  | .non => by simp [D.py, PyData.hasDict]
  | .bl _ => by simp [D.py, PyData.hasDict]
  | .int _ => by simp [D.py, PyData.hasDict]
  | .str _ => by simp [D.py, PyData.hasDict]
  | .tup xs => by simp only [D.py, PyData.hasDict]; exact pys_noDict xs
  | .lst xs => by simp only [D.py, PyData.hasDict]; exact pys_noDict xs
  | .obj _ _ => by simp [D.py, PyData.hasDict]
  | .pen => by simp [D.py, PyData.hasDict]
  | .dk _ => by simp [D.py, PyData.hasDict]
  | .dt _ => by simp [D.py, PyData.hasDict]
theorem pys_noDict : ∀ ds : List D, PyData.hasDictAll (D.pys ds) = false
  | [] => by simp [D.pys, PyData.hasDictAll]
  | d :: ds => by simp only [D.pys, PyData.hasDictAll, py_noDict d, pys_noDict ds, Bool.or_self]
end
variable {X : Cx}
theorem call_reprD (hg : X.A.guards = some []) (hu : X.A.units + 150 < cLine) :
    CallR X (.builtin "repr") (fun xs H Q => ∃ v d, xs = [v] ∧ Dp X.K H v d ∧ d.hasDict = false ∧ d.showable = true ∧ d.depth ≤ 100 ∧ d.shown.length ≤ 10000000 ∧ Q (.str d.shown) H) := by
  intro pins s σ H xs us Q I r h
  obtain ⟨v, d, rfl, hd, hnd, hs, hdep, hz, q⟩ := h
  obtain ⟨u, rfl, rv⟩ := vals1 r
  have hsz : d.shown.length ≤ sizeLine := by rw [sizeLine_eq]; omega
  cases hd with
  | non =>
    cases rv
    exact PySem.P.repr_of_none ⟨.str _, H, I.tok _, ⟨_, rfl⟩, q⟩
  | bl b =>
    cases rv
    exact PySem.P.repr_of_bool ⟨.str _, H, I.tok _, ⟨s.toks, by cases b <;> rfl⟩, q⟩
  | int i =>
    obtain ⟨t, rfl⟩ := rv
    exact PySem.P.repr_of_int (by simpa [PyData.showable] using hs) ⟨.str _, H, I.tok _, ⟨_, rfl⟩, q⟩
  | str x =>
    obtain ⟨t, rfl⟩ := rv
    exact PySem.P.repr_of_str ⟨.str _, H, I.tok _, ⟨_, rfl⟩, q⟩ (by simpa [PyData.shown] using hsz)
  | lst h1 h2 =>
    rename_i a ys ds
    obtain ⟨as, rd⟩ := Dp.reads I (.list ds) (.ref a) u (.lst h1 h2) rv
    obtain rfl : u = Value.ref a := rv
    exact repr_of_reads' rd hs (PyData.noDict_hsm hnd) hg (by omega) (fun _ _ e => e) (fun h' u tk hk => ⟨.str _, H, I.kept hk, ⟨_, rfl⟩, q⟩) hsz
  | tup h1 h2 =>
    rename_i a ys ds
    obtain ⟨as, rd⟩ := Dp.reads I (.tuple ds) (.ref a) u (.tup h1 h2) rv
    obtain rfl : u = Value.ref a := rv
    exact repr_of_reads' rd hs (PyData.noDict_hsm hnd) hg (by omega) (fun _ _ e => e) (fun h' u tk hk => ⟨.str _, H, I.kept hk, ⟨_, rfl⟩, q⟩) hsz
theorem l_repr : LiftC X (fun xs H Q => ∃ v d, xs = [v] ∧ Dp X.K H v d ∧ d.hasDict = false ∧ d.showable = true ∧ d.depth ≤ 100 ∧ d.shown.length ≤ 10000000 ∧ Q (.str d.shown) H) reprD := by
  intro w G H x dx dz Q s hx hz q
  unfold reprD at hz
  split at hz
  · rename_i hk
    cases hz
    unfold showOk at hk
    simp only [Bool.and_eq_true, decide_eq_true_eq] at hk
    obtain ⟨⟨⟨k1, k2⟩, k3⟩, k4⟩ := hk
    exact ⟨x, dx.py, rfl, RepQ.dp (n := 59) s hx k1, py_noDict dx, k2, k3, k4, q G H _ al0 (.str _)⟩
  · cases hz
end
end Pd

namespace Pd
open PySem PySem.Spec L2 PyProof.Rows
def wManyA (K : PySem.W.Frag) (i : Nat) (Wout : WX) (D : Ends) : List (Bool × Value × (Addr → Value → Option Addr → TS)) → WX
  | [] => Wout
  | (b, c, ts) :: r => fun cls d σ H => ∃ k, PySem.W.exmOne K cls c = some k ∧
      (k = true → ∀ a, H a = none → if b = true then ts a cls d { nx := fun σ' H' => D.nx (σ'.set i none) H', rt := D.rt, bk := fun σ' H' => D.bk (σ'.set i none) H', ct := fun σ' H' => D.ct (σ'.set i none) H' } (σ.set i (some (.ref a))) H else ts a cls d D σ H) ∧
      (k = false → wManyA K i Wout D r cls d σ H)
inductive HdsA (X : Cx) (n : Str) : List ExceptHandler → List (Bool × Value × (Addr → Value → Option Addr → TS)) → Prop
  | nil : HdsA X n [] []
  | cons {b : Bool} {x : Str} {c : Value} {ts : Addr → Value → Option Addr → TS} {b₀ : Stmt} {suite : List Stmt} {np pos' : Pos} {hds : List ExceptHandler} {l : List (Bool × Value × (Addr → Value → Option Addr → TS))} (hc : Names X x c)
      (hsu : ∀ (a : Addr) (oe : Obj) (cls : Value) (d : Option Addr) (pn : List (Addr × Obj)), Zc cls d oe → (∃ vs, oe.data = .fields vs) → PSs (X.suite a ((a, oe) :: pn)) (b₀ :: suite) (ts a cls d)) (r : HdsA X n hds l) :
      HdsA X n (.ExceptHandler (some (.Name x np)) (if b = true then some n else none) (b₀ :: suite) pos' :: hds) ((b, c, ts) :: l)
section
variable {X : Cx} {body : List Stmt} {h₀ : ExceptHandler} {hds : List ExceptHandler} {l : List (Bool × Value × (Addr → Value → Option Addr → TS))} {pos : Pos} {tb : WX → TS} {Wout : WX} {i : Nat} {n : Str}
theorem ps_try_manyA (hs : X.stack = X.env :: X.outer) (hf : X.env.frame = some X.env.locals) (hN : X.N.Nodup) (hi : X.N[i]? = some n) (hln : X.env.kindOf n = some .local) (tk : Takes X Wout)
    (hb : ∀ (W : WX) (pn : List (Addr × Obj)) (xe : Value → Shared → Prop), Takes (X.tr pn xe) W → PassesOwn (model X.prog X.w) X.A X.env xe → PSs (X.tr pn xe) body (tb W))
    (hh : HdsA X n (h₀ :: hds) l) : PS X (.Try body (h₀ :: hds) [] [] pos) (fun D σ H => tb (wManyA X.K i Wout D l) D σ H) := by
  refine ⟨fun pins s σ H D I h => ?_⟩
  have ok := I.ok
  have hfr : X.A.frames = some (X.env :: X.outer) := by rw [ok.frames, hs]
  have hloc : Loc X.env.scope n := .inl hln
  refine wpAny_Try_except ?_
  refine wpAny_mono ((hb (wManyA X.K i Wout D l) (X.pn ++ pins) (fun e s₁ => wpAny (model X.prog X.w) X.A (noteFrame e X.env) (fun _ s₂ => wpAny (model X.prog X.w) X.A (setFlight e none) (fun _ s₃ =>
    wpAny (model X.prog X.w) X.A (handleBy e X.env (h₀ :: hds)) (SP X pins D) X.xe s₃) X.xe s₂) X.xe s₁) (fun u s' xx => ?_) PassesOwn.looking).run [] s σ H D (I.toTry _) h) (fun f s1 hsp => ?_) (fun e s1 he => he)
  · obtain ⟨a, B, sI, pins', σ', H', cls, d, rfl, J', nb, up, sky, na, os, ag, w⟩ := xx
    have J : Inv X pins σ' H' sI := J'.ofTry ok
    have sky' : Sky B (X.env :: X.outer) a (Zc cls d) X.env.locals s'.heap := by rw [← hs]; exact sky
    show wpAny (model X.prog X.w) X.A (noteFrame (.ref a) X.env) _ _ _
    refine Sky.land Zc.steady hfr hf sky' fun h3 fl3 up3 => ?_
    have J3 : Inv X pins σ' H' { s' with heap := h3 } := J.landed nb fl3.1 (up.trans up3) os ag
    obtain ⟨oe3, vs3, he3, hz3, hd3⟩ := fl3.there
    have notFr : ∀ {h : Heap} {o : Obj} {vs : Array Value}, h.FunFrames B (X.env :: X.outer) → h.get? a = some o → o.data = .fields vs → a ∉ frs (X.env :: X.outer) := fun {h o vs} ff e dd hm => by
      obtain ⟨_, o', e', hnf⟩ := ff.mem hm
      rw [e] at e'; cases e'
      exact hnf _ dd
    have nfr := notFr fl3.2.2.1 he3 hd3
    have nL : a ≠ X.env.locals := fun z => nfr (List.mem_filterMap.mpr ⟨X.env, List.mem_cons_self, by rw [hf, z]⟩)
    have nF : a ∉ X.fs := fun hm => by
      obtain ⟨e, he, q⟩ := List.mem_filterMap.mp hm
      exact nfr (List.mem_filterMap.mpr ⟨e, List.mem_cons_of_mem _ he, q⟩)
    have S3 := J3.suite he3 hd3 na nL nF
    have go : ∀ {hds' : List ExceptHandler} {l' : List (Bool × Value × (Addr → Value → Option Addr → TS))}, HdsA X n hds' l' → wManyA X.K i Wout D l' cls d σ' H' →
        wpAny (model X.prog X.w) X.A (handleBy (.ref a) X.env hds') (SP X pins D) X.xe { s' with heap := h3 } := by
      intro hds' l' hk
      induction hk with
      | nil =>
        intro w
        refine wpAny_handleBy_nil ?_
        obtain ⟨k1, k2, k3, oe, vs, T, oT, ts', he, hz, hd, h1, hr⟩ := id fl3
        unfold PySem.passOn
        refine wpAny_bind (wpAny_field he hd h1 ?_)
        rw [if_neg (show ¬ ((Value.ref T == Value.none) = true) from by simp)]
        have fin : wpAny (model X.prog X.w) X.A (setFlight (.ref a) X.env.frame) (fun _ s4 => wpAny (model X.prog X.w) X.A (throw (.ref a) : Sem Flow) (SP X pins D) X.xe s4) X.xe { s' with heap := h3 } := by
          rw [hf]
          refine HandSPX.setFlight_upZ fl3 fun h4 hh4 up4 => wpAny_throw (tk _ _ ?_)
          exact ⟨a, B, sI, pins, σ', H', cls, d, rfl, J, nb, (up.trans up3).trans up4, .inr (.inr (by rw [hs]; exact hh4)), na, os, ag, w⟩
        first
          | exact wpAny_bind (wpAny_pure (wpAny_bind fin))
          | exact wpAny_bind fin
      | @cons b x c ts b₀ suite np pos' hds2 l2 hc hsu r ih =>
        intro w
        obtain ⟨k, hb1, hyes, hno⟩ := w
        refine wpAny_handleBy_cons (codeAny_handlers_test ?_) (by intro q; cases q)
        have LT : PySem.W.Looks (model X.prog X.w) h3 (typeOf (.ref a)) cls := fun A Q E s k q => wpAny_typeOf_ref (k _ _ he3) (by rw [hz3.1]; exact q)
        have LM := PySem.W.exm_one (M := model X.prog X.w) (J3.kIn) LT hb1
        have test : ∀ {Q : Value → Shared → Prop} {E : Value → Shared → Prop}, Q c { s' with heap := h3 } → wpAny (model X.prog X.w) (X.A.mark (some (.ref a))) (eval (.Name x np) X.env) Q E { s' with heap := h3 } := fun {Q E} q => by
          obtain ⟨hg, hdbg, hm | ⟨hm, hv, hnn⟩⟩ := hc
          · exact ld_glob (X := X.suite a ((a, oe3) :: (X.pn ++ pins))) S3 hg hm q hdbg
          · exact ld_blt (X := X.suite a ((a, oe3) :: (X.pn ++ pins))) S3 hg hm hv q hnn hdbg
        refine test (LM.here ?_)
        cases k with
        | true =>
          have hy := hyes rfl a na
          cases b with
          | false =>
            refine codeAny_handlers_suite ?_
            refine HandSPX.lands_againZ fl3 fun h4 fl4 up4 => ?_
            have J4 : Inv X pins σ' H' { s' with heap := h4 } := J.landed nb fl4.1 ((up.trans up3).trans up4) os ag
            obtain ⟨oe4, vs4, he4, hz4, hd4⟩ := fl4.there
            have S4 := J4.suite he4 hd4 na nL nF
            refine wpAny_mono ((hsu a oe4 cls d (X.pn ++ pins) hz4 ⟨_, hd4⟩).run [] _ _ H' _ S4 hy) (fun f s6 hsp => ?_) (fun _ _ z => False.elim z)
            cases f with
            | next =>
              obtain ⟨σ6, H6, S6, q6⟩ := hsp
              exact ⟨_, _, S6.unsuite ok, q6⟩
            | brk =>
              obtain ⟨σ6, H6, S6, q6⟩ := hsp
              exact ⟨_, _, S6.unsuite ok, q6⟩
            | cont =>
              obtain ⟨σ6, H6, S6, q6⟩ := hsp
              exact ⟨_, _, S6.unsuite ok, q6⟩
            | ret u =>
              obtain ⟨v6, σ6, H6, S6, r6, q6⟩ := hsp
              exact ⟨_, _, _, S6.unsuite ok, r6, q6⟩
          | true =>
            refine codeAny_handlers_suite_as ?_
            refine HandSPX.lands_againZ fl3 fun h4 fl4 up4 => ?_
            have J4 : Inv X pins σ' H' { s' with heap := h4 } := J.landed nb fl4.1 ((up.trans up3).trans up4) os ag
            obtain ⟨oe4, vs4, he4, hz4, hd4⟩ := fl4.there
            have S4 := J4.suite he4 hd4 na nL nF
            refine store_ok (X := X.suite a ((a, oe4) :: (X.pn ++ pins))) (v := .ref a) S4 hN hi hloc rfl (fun s5 S5 => ?_) (.inr hln)
            refine wpAny_mono ((hsu a oe4 cls d (X.pn ++ pins) hz4 ⟨_, hd4⟩).run [] s5 _ H' _ S5 hy) (fun f s6 hsp => ?_) (fun _ _ z => False.elim z)
            have end_ : ∀ {σ6 : L2.St} {H6 : Hp} {Q : Shared → Prop}, Inv (X.suite a ((a, oe4) :: (X.pn ++ pins))) [] σ6 H6 s6 → (∀ s7, Inv X pins (σ6.set i none) H6 s7 → Q s7) →
                wpAny (model X.prog X.w) X.A (do bindName X.env n .none; unbindBehindTheSuite X.env n pos') (fun _ s7 => Q s7) X.xe s6 := fun {σ6 H6 Q} S6 hq => gone_ok (S6.unsuite ok) hN hi hln hq
            cases f with
            | next =>
              obtain ⟨σ6, H6, S6, q6⟩ := hsp
              exact end_ S6 fun s7 J7 => ⟨_, _, J7, q6⟩
            | brk =>
              obtain ⟨σ6, H6, S6, q6⟩ := hsp
              exact end_ S6 fun s7 J7 => ⟨_, _, J7, q6⟩
            | cont =>
              obtain ⟨σ6, H6, S6, q6⟩ := hsp
              exact end_ S6 fun s7 J7 => ⟨_, _, J7, q6⟩
            | ret u =>
              obtain ⟨v6, σ6, H6, S6, r6, q6⟩ := hsp
              exact end_ S6 fun s7 J7 => ⟨_, _, _, J7, r6, q6⟩
        | false =>
          show wpAny _ X.A (handleBy (.ref a) X.env hds2) _ _ _
          exact ih (hno rfl)
    exact go hh w
  · cases f with
    | next =>
      obtain ⟨σ', H', J', q⟩ := hsp
      exact wpAny_execs_nil ⟨σ', H', J'.ofTry ok, q⟩
    | brk =>
      obtain ⟨σ', H', J', q⟩ := hsp
      exact ⟨σ', H', J'.ofTry ok, q⟩
    | cont =>
      obtain ⟨σ', H', J', q⟩ := hsp
      exact ⟨σ', H', J'.ofTry ok, q⟩
    | ret u =>
      obtain ⟨v, σ', H', J', r, q⟩ := hsp
      exact ⟨v, σ', H', J'.ofTry ok, r, q⟩
end
end Pd

namespace Pd
open PySem PySem.Spec L2 PyProof.Rows
def itsV (K : PySem.W.Frag) (C : Addr) (cls : Value) (d : Option Addr) : List (Str × Bool) → Hp → (List V → Hp → Prop) → Prop
  | [], H, Q => Q [] H
  | (f, b) :: r, H, Q => cls = .ref C ∧ ∃ dd fs v, d = some dd ∧ H dd = some (.xd fs) ∧ fs.lookup f = some v ∧
      if b = true then ∃ pd, Dp K H v pd ∧ pd.hasDict = false ∧ pd.showable = true ∧ pd.depth ≤ 100 ∧ pd.shown.length ≤ 10000000 ∧ itsV K C cls d r H fun vs H1 => Q (.str pd.shown :: vs) H1
      else itsV K C cls d r H fun vs H1 => Q (v :: vs) H1
def tIts (K : PySem.W.Frag) (C : Addr) (i : Nat) (a : Addr) (cls : Value) (d : Option Addr) (its : List (Str × Bool)) : TA := fun σ H Q => (its = [] ∨ σ[i]? = some (some (.ref a))) ∧ itsV K C cls d its H Q
structure CV where
  as_ : Bool
  C : Addr
  tag : Str
  its : List (Str × Bool)
def tsC (K : PySem.W.Frag) (i : Nat) (c : CV) : Addr → Value → Option Addr → TS := fun a cls d => tRet (tTup (tCons (tC (.str c.tag)) (tIts K c.C i a cls d c.its)))
section
variable {X : Cx} {i : Nat} {a : Addr} {oe : Obj} {cls : Value} {d : Option Addr} {pn : List (Addr × Obj)} {c : Str} {C fI cc cda : Addr} {fs : List Str} {pos : Pos} {e : Expr} {es : List Expr}
theorem pe_byX {f : Str} {te : TE} (T : PdX.Xt X.prog X.K X.mg c C fI cc cda fs) (hm : f ∈ fs) (hz : Zc cls d oe) (hf : ∃ vs, oe.data = .fields vs) (he : PE (X.suite a ((a, oe) :: pn)) e te)
    (hb : attributeBase e f X.env (eval e X.env) = eval e X.env) :
    PE (X.suite a ((a, oe) :: pn)) (.Attribute e f pos) (fun σ H Q => te σ H fun x H1 => x = .ref a ∧ cls = .ref C ∧ ∃ (dd : Addr) (gs : List (Str × V)) (v : V), d = some dd ∧ H1 dd = some (.xd gs) ∧ gs.lookup f = some v ∧ Q v H1) := by
  refine ⟨fun pins s σ H Q I h => ?_⟩
  refine attr_of hb (thn (he.run pins s σ H _ I h) fun u s1 hh => ?_)
  obtain ⟨x, H1, I1, rx, ex, ec, dd, gs, v, ed, ea, l, q⟩ := hh
  subst ex
  obtain rfl : u = Value.ref a := rx
  subst ec
  subst ed
  obtain ⟨ha, _⟩ := I1.pin (a, oe) (List.mem_append_left _ List.mem_cons_self)
  obtain ⟨vs, hd⟩ := hf
  have hx : ObjOk X.prog X.w H1 s1.heap dd (.xd gs) := I1.hok dd _ ea
  obtain ⟨mA, hns, hr⟩ := hx
  obtain ⟨od, ho, hl⟩ := lookIn_ns hns
  obtain ⟨u, hu, ru⟩ := RelO.some_of (v := v) (o := mA f) (by rw [← l]; exact hr f)
  have J : PySem.W.InstAt s1.heap a oe C (some od) := ⟨ha, hz.1, by unfold PySem.W.notCls; rw [hd] <;> rfl, by rw [hz.2]; exact ho⟩
  exact HandSPX.exc_get I1.kIn J T.ga T.gg T.exC (PySem.W.findObj_own T.hdC (T.noN f hm) rfl (by rw [hl, hu])) (handed_of ru) ⟨v, H1, I1.tok _, ru, q⟩
theorem its_nil {X' : Cx} : PA X' [] (tIts X'.K C i a cls d []) := ⟨fun pos pins s σ H Q I h => pa_nil.run pos pins s σ H Q I h.2⟩
theorem its_f {f n : Str} {its : List (Str × Bool)} {p : Pos} (T : PdX.Xt X.prog X.K X.mg c C fI cc cda fs) (hz : Zc cls d oe) (hf : ∃ vs, oe.data = .fields vs) (hm : f ∈ fs) (hi : X.N[i]? = some n) (hv : Vis X.env.scope n) (hd : (n == ("__debug__" : Str)) = false) (hcd : (n == ("__classdict__" : Str)) = false)
    (hb : attributeBase (.Name n p) f X.env (eval (.Name n p) X.env) = eval (.Name n p) X.env) (hr : PA (X.suite a ((a, oe) :: pn)) es (tIts X.K C i a cls d its))
    (hs : starEach (.Attribute (.Name n p) f pos :: es) X.env = (false, eval (.Attribute (.Name n p) f pos) X.env) :: starEach es X.env) :
    PA (X.suite a ((a, oe) :: pn)) (.Attribute (.Name n p) f pos :: es) (tIts X.K C i a cls d ((f, false) :: its)) := by
  have h1 := pe_byX (pos := pos) (oe := oe) (pn := pn) (d := d) T hm hz hf (pe_var (X := X.suite a ((a, oe) :: pn)) (i := i) (x := n) (pos := p) hi hv hd hcd) hb
  have h2 := pa_cons h1 hr hs
  refine ⟨fun pos pins s σ H Q I h => h2.run pos pins s σ H Q I ?_⟩
  obtain ⟨h3, h4⟩ := h
  rcases h3 with h3 | h3
  · cases h3
  obtain ⟨ec, dd, gs, v, ed, ea, l, q⟩ := h4
  exact ⟨.ref a, h3, rfl, ec, dd, gs, v, ed, ea, l, .inr h3, q⟩
theorem its_r {f n : Str} {its : List (Str × Bool)} {p q pos2 : Pos} (hgd : X.A.guards = some []) (hu : X.A.units + 150 < cLine) (hgl : Gl X "repr") (hmr : X.mg "repr" = none) (hvr : bootBuiltins "repr" = some (.builtin "repr")) (T : PdX.Xt X.prog X.K X.mg c C fI cc cda fs) (hz : Zc cls d oe) (hf : ∃ vs, oe.data = .fields vs) (hm : f ∈ fs) (hi : X.N[i]? = some n) (hv : Vis X.env.scope n) (hd : (n == ("__debug__" : Str)) = false) (hcd : (n == ("__classdict__" : Str)) = false)
    (hb : attributeBase (.Name n p) f X.env (eval (.Name n p) X.env) = eval (.Name n p) X.env) (hr : PA (X.suite a ((a, oe) :: pn)) es (tIts X.K C i a cls d its))
    (hs2 : starEach [.Attribute (.Name n p) f pos] X.env = (false, eval (.Attribute (.Name n p) f pos) X.env) :: starEach [] X.env)
    (hs : starEach (.Call (.Name "repr" q) [.Attribute (.Name n p) f pos] [] pos2 :: es) X.env = (false, eval (.Call (.Name "repr" q) [.Attribute (.Name n p) f pos] [] pos2) X.env) :: starEach es X.env) :
    PA (X.suite a ((a, oe) :: pn)) (.Call (.Name "repr" q) [.Attribute (.Name n p) f pos] [] pos2 :: es) (tIts X.K C i a cls d ((f, true) :: its)) := by
  have h1 := pe_byX (pos := pos) (oe := oe) (pn := pn) (d := d) T hm hz hf (pe_var (X := X.suite a ((a, oe) :: pn)) (i := i) (x := n) (pos := p) hi hv hd hcd) hb
  have h2 := pe_callB (X := X.suite a ((a, oe) :: pn)) (p := q) (pos := pos2) (x := "repr") (call_reprD hgd hu) hgl hmr hvr (pa_cons h1 pa_nil hs2) (he := hs2)
  have h3 := pa_cons h2 hr hs
  refine ⟨fun pos pins s σ H Q I h => h3.run pos pins s σ H Q I ?_⟩
  obtain ⟨h4, h5⟩ := h
  rcases h4 with h4 | h4
  · cases h4
  obtain ⟨ec, dd, gs, v, ed, ea, l, pd, k1, k2, k3, k4, k5, q⟩ := h5
  exact ⟨.ref a, h4, rfl, ec, dd, gs, v, ed, ea, l, v, pd, rfl, k1, k2, k3, k4, k5, .inr h4, q⟩
theorem su_ret {X' : Cx} {tag : Str} {its : List (Str × Bool)} {j k : Nat} {b : Bool} {p p2 p3 : Pos} (h : PA X' es (tIts X'.K C i a cls d its)) (hs : starEach (.Constant (.str tag) j p :: es) X'.env = (false, eval (.Constant (.str tag) j p) X'.env) :: starEach es X'.env) :
    PSs X' [.Return (some (.Tuple (.Constant (.str tag) j p :: es) k p2)) p3] (tsC X'.K i ⟨b, C, tag, its⟩ a cls d) := pss_one (ps_ret (pe_tup (pa_cons pe_str h hs)))
end
def tsL (n : Nat) (t : TS) : TS := fun D σ H => σ.length = n → t D σ H
theorem pss_len {X : Cx} {b : List Stmt} {t : TS} (h : PSs X b t) : PSs X b (tsL X.N.length t) := ⟨fun pins s σ H D I q => h.run pins s σ H D I (q I.len)⟩
def wishV (K : PySem.W.Frag) (Q : VK) : List CV → XK
  | [] => fun _ _ _ => False
  | c :: r => fun cls d H => ∃ k, PySem.W.exmOne K cls (.ref c.C) = some k ∧
      (k = true → (c.as_ = true ∨ c.its = []) ∧ itsV K c.C cls d c.its H fun vs H1 => (V.str c.tag :: vs).length ≤ sizeLine ∧ ∀ p, H1 p = none → Q (.ref p) (upd H1 p (.tup (.str c.tag :: vs)))) ∧
      (k = false → wishV K Q r cls d H)
theorem wish_many {K : PySem.W.Frag} {i n : Nat} {Wout : WX} {D : Ends} (hi : i < n) : ∀ {cs : List CV} {cls : Value} {d : Option Addr} {σ : L2.St} {H : Hp}, wishV K D.rt cs cls d H → wManyA K i Wout D (cs.map fun c => (c.as_, .ref c.C, fun a cls d => tsL n (tsC K i c a cls d))) cls d σ H
  | [], _, _, _, _, h => h.elim
  | c :: r, cls, d, σ, H, h => by
    obtain ⟨k, h1, h2, h3⟩ := h
    refine ⟨k, h1, fun e a ha => ?_, fun e => wish_many hi (h3 e)⟩
    obtain ⟨q1, q2⟩ := h2 e
    cases hb : c.as_ with
    | true =>
      simp only [if_true]
      intro hl
      refine ⟨.inr ?_, q2⟩
      rw [List.getElem?_set_self (by rw [List.length_set] at hl; omega)]
    | false =>
      simp only [Bool.false_eq_true, if_false]
      intro hl
      rcases q1 with q1 | q1
      · rw [hb] at q1; cases q1
      · exact ⟨.inl q1, q2⟩
def TTc (K : PySem.W.Frag) (cs : List CV) (okS : Str) : (XK → Hp → VK → Prop) → Hp → VK → Prop := fun tl H Q =>
  tl (wishV K Q cs) H fun v H' => [V.str okS, v].length ≤ sizeLine ∧ ∀ p, H' p = none → Q (.ref p) (upd H' p (.tup [.str okS, v]))
open LamX in
theorem gives {X : Cx} {x a e q okS : Str} {sg : Scope} {g : Addr} {cdg : Value} {j k : Nat} {p1 p2 p3 p4 p5 p6 : Pos} {cs : List CV} {h₀ : ExceptHandler} {hds : List ExceptHandler} (hae : [a, e].Nodup) (hln : ∀ L, (PyProof.Rows.envOfC x sg L g cdg).kindOf e = some .local)
    (hh : ∀ (s : Shared) (H : Hp), HdsA (cxOf C8.CX0 X.prog X.w X.K X.mg X.base [a, e] x sg g cdg X.A X.stack s H C8.E0).nox e (h₀ :: hds) (cs.map fun c => (c.as_, .ref c.C, fun a cls d => tsL 2 (tsC X.K 1 c a cls d)))) :
    GivesTo X [a, e] x sg g cdg [.Try [.Return (some (.Tuple [.Constant (.str okS) j p1, .Call (.Name a p2) [] [] p3] k p4)) p5] (h₀ :: hds) [] [] p6] a q (TTc X.K cs okS) := by
  intro f c' s H Q tl act hc h
  refine ⟨_, pss_one (ps_try_manyA (X := (cxOf C8.CX0 X.prog X.w X.K X.mg X.base [a, e] x sg g cdg X.A X.stack s H C8.E0).nox) (i := 1) (n := e)
      (tb := fun W D σ H => ∃ Ech : XK, (∀ cls d σ' H', Ech cls d H' → W cls d σ' H') ∧ σ[0]? = some (some (.ref f)) ∧ H c' = some (CodeO c' q) ∧ tl Ech H fun v H' => [V.str okS, v].length ≤ sizeLine ∧ ∀ p, H' p = none → D.rt (.ref p) (upd H' p (.tup [.str okS, v])))
      rfl rfl hae rfl (hln _) L2.takes0 (fun W pn xe tk _ => ?_) (hh s H)), ?_⟩
  · refine ⟨fun pins s' σ H' D I h' => ?_⟩
    obtain ⟨Ech, hW, h1, h2, h3⟩ := h'
    have hp := act W pn xe Ech p2 p3 tk hW
    have hq := pss_one (ps_ret (pos := p5) (pe_tup (x1 := k) (pos := p4) (pa_cons (pe_str (x := okS) (j := j) (pos := p1)) (pa_cons hp pa_nil) rfl)))
    exact hq.run pins s' σ H' D I ⟨h1, h2, h3⟩
  · exact ⟨wishV X.K Q cs, fun cls d σ' H' hw => wish_many (by decide) hw, rfl, hc, h⟩
structure Cl where
  hit : List (Str × Bool)
  tag : Str
  its : List (Str × Bool)
def itsD (x : Xn) : List (Str × Bool) → Option (List D)
  | [] => some []
  | (f, b) :: r => (x.fs.lookup f).bind fun d => (if b = true then reprD d else some d).bind fun u => (itsD x r).map fun us => u :: us
def clsD (x : Xn) : List Cl → Option D
  | [] => none
  | c :: r => match c.hit.lookup x.c with
    | some true => (itsD x c.its).map fun us => .tup (.str c.tag :: us)
    | some false => clsD x r
    | none => none
def eLam (cs : List Cl) (okS : Str) (f : EM) : EM := fun e p => match f e p with
  | .ok d e' p' => .ok (.tup [.str okS, d]) e' p'
  | .exc x e' p' => optR (clsD x cs) e' p'
  | .bad => .bad
structure ClOk (K : PySem.W.Frag) (mg : Str → Option Value) (c : Cl) (v : CV) : Prop where
  tag : v.tag = c.tag
  its : v.its = c.its
  named : v.as_ = true ∨ c.its = []
  hit : ∀ x b C, c.hit.lookup x = some b → mg x = some (.ref C) → PySem.W.exmOne K (.ref C) (.ref v.C) = some b
  own : c.its ≠ [] → ∀ x C, c.hit.lookup x = some true → mg x = some (.ref C) → C = v.C
  few : c.its.length ≤ 100
inductive ClsOk (K : PySem.W.Frag) (mg : Str → Option Value) : List Cl → List CV → Prop
  | nil : ClsOk K mg [] []
  | cons {c : Cl} {v : CV} {cs : List Cl} {vs : List CV} : ClOk K mg c v → ClsOk K mg cs vs → ClsOk K mg (c :: cs) (v :: vs)
theorem lookup_zip {K : PySem.W.Frag} {mg : Str → Option Value} {pa : Addr} {G : Hp} {f : Str} {d : D} : ∀ {fs : List (Str × V)} {gs : List (Str × D)}, fs.map (·.1) = gs.map (·.1) → Reps K mg pa G (fs.map (·.2)) (gs.map (·.2)) → gs.lookup f = some d →
    ∃ v, fs.lookup f = some v ∧ Rep K mg pa G v d
  | [], [], _, _, h => by simp at h
  | (n, v) :: fs, (m, u) :: gs, e, r, h => by
    simp only [List.map_cons, List.cons.injEq] at e
    obtain ⟨e1, e2⟩ := e
    simp only [List.map_cons] at r
    cases r with
    | cons r1 r2 =>
      simp only [List.lookup_cons] at h ⊢
      rw [e1]
      cases q : f == m with
      | true => simp only [q] at h; cases h; exact ⟨v, rfl, r1⟩
      | false => simp only [q] at h; exact lookup_zip e2 r2 h
theorem its_w {X : Cx} {w : Wl} {G H : Hp} {C : Addr} {d : Addr} {fs : List (Str × V)} {x : Xn} (s : Sub G H) (hd : G d = some (.xd fs)) (hn : fs.map (·.1) = x.fs.map (·.1)) (hr : RepsW (wd X w) G (fs.map (·.2)) (x.fs.map (·.2))) :
    ∀ {its : List (Str × Bool)} {us : List D} {Q : List V → Hp → Prop}, itsD x its = some us → (∀ vs, RepsW (wd X w) G vs us → Q vs H) → itsV X.K C (.ref C) (some d) its H Q
  | [], us, Q, h, q => by
    cases h
    exact q [] .nil
  | (f, b) :: r, us, Q, h, q => by
    unfold itsD at h
    cases hl : x.fs.lookup f with
    | none => rw [hl] at h; cases h
    | some y =>
      rw [hl] at h
      obtain ⟨v, hv, rv⟩ := lookup_zip hn hr hl
      refine ⟨rfl, d, fs, v, rfl, s _ _ hd, hv, ?_⟩
      cases b with
      | true =>
        simp only [if_true, Option.bind_some] at h ⊢
        cases hy : reprD y with
        | none => rw [hy] at h; cases h
        | some z =>
          rw [hy] at h
          simp only [Option.bind_some] at h
          cases hi : itsD x r with
          | none => rw [hi] at h; cases h
          | some zs =>
            rw [hi] at h
            cases h
            unfold reprD at hy
            split at hy
            · rename_i hk
              cases hy
              unfold showOk at hk
              simp only [Bool.and_eq_true, decide_eq_true_eq] at hk
              obtain ⟨⟨⟨k1, k2⟩, k3⟩, k4⟩ := hk
              exact ⟨y.py, rv.dp s k1, py_noDict y, k2, k3, k4, its_w s hd hn hr hi fun vs hvs => q _ (.cons (.str _) hvs)⟩
            · cases hy
      | false =>
        simp only [Bool.false_eq_true, if_false, Option.bind_some] at h ⊢
        cases hi : itsD x r with
        | none => rw [hi] at h; cases h
        | some zs =>
          rw [hi] at h
          cases h
          exact its_w s hd hn hr hi fun vs hvs => q _ (.cons rv hvs)
theorem itsD_len {x : Xn} : ∀ {its : List (Str × Bool)} {us : List D}, itsD x its = some us → us.length = its.length
  | [], _, h => by cases h; rfl
  | (f, b) :: r, us, h => by
    unfold itsD at h
    cases hl : x.fs.lookup f with
    | none => rw [hl] at h; cases h
    | some y =>
      rw [hl] at h
      simp only [Option.bind_some] at h
      cases hy : (if b = true then reprD y else some y) with
      | none => rw [hy] at h; cases h
      | some z =>
        rw [hy] at h
        simp only [Option.bind_some] at h
        cases hi : itsD x r with
        | none => rw [hi] at h; cases h
        | some zs =>
          rw [hi] at h
          cases h
          simp [itsD_len hi]
theorem R.extN {W : Wd} {G H H1 : Hp} {e : Ev} {p : Pen} {σ : L2.St} (r : R W G e p σ H) (x : LamX.ExtN H H1) (t : LamX.Tabs tabsT H1) : R W G e p σ H1 := by
  obtain ⟨fps, h1, h2, h3⟩ := r.sls
  have b := r.base
  refine ⟨⟨fun a o h => x a o (b.sub a o h) (fun ps z => b.gt a ps (by rw [h, z])), b.g0, b.new, fun a o h hp ht => x a o (b.kept a o h hp ht) ht, b.gt, b.nt, t, ?_⟩, fps, h1.mono (Sub.refl G) fun a ha o ho => x a o ho fun ps z => ?_, h2, h3⟩
  · obtain ⟨p1, ca, p2, p3⟩ := b.pen
    exact ⟨p1, ca, p2, x _ _ p3 fun ps z => by cases z⟩
  · obtain ⟨o', q, oq⟩ := h1.isL a ha
    rw [ho] at q
    cases q
    exact oq.1 ps z
theorem cls_w {X : Cx} {WW : WX} {w : Wl} {σ : L2.St} {G H : Hp} {e : Ev} {p : Pen} {Q : VK} {x : Xn} {cls : Value} {dd : Option Addr} (r : R (wd X w) G e p σ H) (hx : XRep (wd X w) G cls dd x) :
    ∀ {cs : List Cl} {vs : List CV}, ClsOk X.K X.mg cs vs → Post (rpE (wd X w)) (wd X w) WW σ Q G (optR (clsD x cs) e p) → wishV X.K Q vs cls dd H
  | _, _, .nil, q => q
  | c :: cs, v :: vs, .cons hc hcs, q => by
    obtain ⟨C, hC, rfl, hf⟩ := id hx
    unfold clsD at q
    cases hl : c.hit.lookup x.c with
    | none => simp only [hl] at q; exact q.elim
    | some b =>
      refine ⟨b, hc.hit _ _ _ hl hC, fun eb => ?_, fun eb => ?_⟩
      · subst eb
        simp only [hl] at q
        cases hi : itsD x c.its with
        | none => simp only [hi] at q; exact q.elim
        | some us =>
          simp only [hi, Option.map_some, optR] at q
          refine ⟨by rw [hc.its]; exact hc.named, ?_⟩
          have fin : ∀ ws, RepsW (wd X w) G ws us → (V.str v.tag :: ws).length ≤ sizeLine ∧ ∀ p, H p = none → Q (.ref p) (upd H p (.tup (.str v.tag :: ws))) := fun ws hws => by
            refine ⟨?_, fun a ha => ?_⟩
            · have h1 := hws.length
              have h2 := itsD_len hi
              have h3 := hc.few
              rw [List.length_cons, sizeLine_eq]
              omega
            · have hn := (r.base.free ha).2.1
              refine q (upd G a (.tup (.str v.tag :: ws))) (.ref a) _ (Sub.new hn) (r.alloc ha) (.tup upd_same ?_)
              rw [hc.tag]
              exact .cons (.str _) (hws.mono (Sub.new hn))
          rw [hc.its]
          cases hits : c.its with
          | nil =>
            rw [hits] at hi
            cases hi
            exact fin [] .nil
          | cons y ys =>
            have ne : c.its ≠ [] := by rw [hits]; exact List.cons_ne_nil _ _
            obtain rfl := hc.own ne _ _ hl hC
            rcases hf with ⟨h1, h2⟩ | ⟨d, fs, rfl, h1, h2, h3⟩
            · exfalso
              rw [hits] at hi
              obtain ⟨f, b⟩ := y
              unfold itsD at hi
              rw [h1] at hi
              cases hi
            · rw [← hits]
              exact its_w r.sub h1 h2 h3 hi fin
      · subst eb
        simp only [hl] at q
        exact cls_w r hx hcs q
section
variable {X : Cx} {WW : WX} {fb : EM}
theorem lam_w {cs : List Cl} {vs : List CV} {okS : Str} (hcs : ClsOk X.K X.mg cs vs) (σ : L2.St) (H : Hp) (Q : VK) (q : tE X WW (eLam cs okS fb) σ H Q) :
    LamX.tLam tabsT (TTc X.K vs okS) (fun E => tE X (fun cls d _ H => E cls d H) fb) σ H Q := by
  obtain ⟨w, G, e, p, r, q⟩ := q
  refine ⟨r.base.tab, fun H1 xN t1 => ⟨w, G, e, p, r.extN xN t1, ?_⟩⟩
  unfold eLam at q
  cases hf : fb e p with
  | bad => simp only [hf] at q; exact q.elim
  | exc x e' p' =>
    simp only [hf] at q
    exact fun G1 cls dd H2 s1 r1 hx => cls_w r1 hx hcs (q.mono s1)
  | ok d e' p' =>
    simp only [hf] at q
    intro G1 v H2 s1 r1 hv
    refine ⟨by rw [sizeLine_eq]; show 2 ≤ _; omega, fun a ha => ?_⟩
    have hn := (r1.base.free ha).2.1
    exact q (upd G1 a _) (.ref a) _ (s1.trans (Sub.new hn)) (r1.alloc ha) (.tup upd_same (.cons (.str _) (.cons (hv.mono (Sub.new hn)) .nil)))
open LamX in
theorem de_lam {cs : List Cl} {cvs : List CV} {okS : Str} {x a : Str} {g c P : Addr} {k : Nat} {pg : Arguments} {bg : List Stmt} {sg : Scope} {dV kV doc pm cdv ct oc : Value} {an od : Option Addr} {osl : Array (Option Value)} {Ng : List Str}
    {params : Arguments} {body : Expr} {scope : Scope} {p lpos pos : Pos} (hcs : ClsOk X.K X.mg cs cvs) (hg : Gl X x) (hm : X.mg x = some (.ref g)) (hk : PySem.W.keepIn X.K (.ref g) = true)
    (lk : X.K.lookup g = some ⟨oc, od, .func (PySem.W.fnOf x x pg bg sg dV kV doc pm an cdv ct), osl⟩) (hcg : PySem.W.codeIn X.K cdv x = true) (hb : L2.Binds X.K (PySem.W.fnOf x x pg bg sg dV kV doc pm an cdv ct) [a] []) (Sg : FnScope Ng [a] sg) (hNg : Ng[0]? = some a) (hva : Vis sg a)
    (hG : GivesTo X Ng x sg g cdv bg a (X.env.qual ++ "<lambda>") (TTc X.K cvs okS))
    (TB : TabB X.base X.mg c P) (hcode : X.env.code = .ref c) (hmT : (P, X.env.qual ++ "<lambda>") ∈ tabsT) (hu : ∀ p ∈ tabsT, p.1 = P → p.2 = X.env.qual ++ "<lambda>") (hr : Room (k + 2) X.A) (L : LamS X.env.scope scope) (hdef : defaultsOf params X.env = ([], []))
    (hbind : ∀ (q : Str) (cl : List (Str × Addr)) (pm cv ctv : Value), bindArgs (PySem.W.kla_fn "<lambda>" q params body scope cl pm cv ctv) ⟨[], []⟩ = pure [])
    (hbody : ∀ (A : Around) (outer : List Env) (s : Shared) (H : Hp) (E : XK) (f c' : Addr), Room k (A.deeper (lamEnv X scope s.heap.objs.size f c')) → DE (lamCx X A outer s H E scope f c') (fun cls d _ H => E cls d H) body fb)
    (hdb : (x == ("__debug__" : Str)) = false := by decide) (hd : (a == ("__debug__" : Str)) = false := by decide) (hcd : (a == ("__classdict__" : Str)) = false := by decide) :
    DE X WW (.Call (.Name x p) [.Lambda params body scope lpos] [] pos) (eLam cs okS fb) :=
  PEw (pe_lamcall (T := tabsT) (TT := TTc X.K cvs okS) (t := fun E => tE X (fun cls d _ H => E cls d H) fb) hg hm hk lk hcg hb Sg hNg hva hG TB hcode hmT hu hr L hdef hbind (fun A outer s H E f c' h => hbody A outer s H E f c' h) hdb hd hcd) fun σ H Q q => lam_w hcs σ H Q q
end
end Pd

namespace Pd
open PySem PySem.Spec L2 PyProof.Rows RZ
section
variable {W : Wd} {G G' H H' : Hp} {e : Ev} {p p' : Pen} {σ : L2.St}
theorem SlRs.reslot {s : Option V} {sl' : Option Sl} {fp' : List Addr} (sg : Sub G G') (q : SlR W G' H' s sl' fp') : ∀ {σ : L2.St} {e : Ev} {fps : List (List Addr)} (i : Nat), SlRs W G H σ e fps → σ[i]? = some s →
    (∀ j, j ≠ i → ∀ f, fps[j]? = some f → ∀ a ∈ f, ∀ o, H a = some o → H' a = some o) → SlRs W G' H' σ (e.set i sl') (fps.set i fp')
  | _, _, _, _, .nil, h, _ => by simp at h
  | _, _, _, 0, .cons _ r, h, k => by
    simp at h
    subst h
    refine .cons q (r.mono sg fun a ha o ho => ?_)
    obtain ⟨f, hf, hm⟩ := List.mem_flatten.mp ha
    obtain ⟨j, hj⟩ := List.getElem?_of_mem hf
    exact k (j + 1) (by omega) f (by simpa using hj) a hm o ho
  | _, _, _, i + 1, .cons t r, h, k => by
    refine .cons (t.mono sg fun a ha o ho => k 0 (by omega) _ rfl a ha o ho) (SlRs.reslot sg q i r (by simpa using h) fun j hj f hf => k (j + 1) (by omega) f (by simpa using hf))
theorem nodup_set2 {fp' : List Addr} : ∀ {fps : List (List Addr)} {i : Nat}, fps.flatten.Nodup → fp'.Nodup → (∀ j, j ≠ i → ∀ f, fps[j]? = some f → ∀ a ∈ fp', a ∉ f) → (fps.set i fp').flatten.Nodup
  | [], _, _, _, _ => by simp
  | f :: r, 0, nd, n2, k => by
    rw [List.flatten_cons, List.nodup_append] at nd
    simp only [List.set, List.flatten_cons]
    rw [List.nodup_append]
    refine ⟨n2, nd.2.1, fun a ha b hb => ?_⟩
    obtain ⟨g, hg, hm⟩ := List.mem_flatten.mp hb
    obtain ⟨j, hj⟩ := List.getElem?_of_mem hg
    rintro rfl
    exact k (j + 1) (by omega) g (by simpa using hj) a ha hm
  | f :: r, i + 1, nd, n2, k => by
    rw [List.flatten_cons, List.nodup_append] at nd
    simp only [List.set, List.flatten_cons]
    rw [List.nodup_append]
    refine ⟨nd.1, nodup_set2 nd.2.1 n2 fun j hj g hg => k (j + 1) (by omega) g (by simpa using hg), fun a ha b hb => ?_⟩
    rcases mem_set_flatten hb with hb | hb
    · rintro rfl
      exact k 0 (by omega) f rfl a hb ha
    · exact nd.2.2 a ha b hb
theorem disj_flat : ∀ {fps : List (List Addr)} {i j : Nat} {f g : List Addr} {a : Addr}, fps.flatten.Nodup → fps[i]? = some f → fps[j]? = some g → i ≠ j → a ∈ f → a ∉ g
  | [], _, _, _, _, _, _, h, _, _, _ => by simp at h
  | x :: r, 0, 0, _, _, _, _, _, _, h, _ => absurd rfl h
  | x :: r, 0, j + 1, f, g, a, nd, h1, h2, _, ha => by
    rw [List.flatten_cons, List.nodup_append] at nd
    simp at h1
    subst h1
    exact fun z => nd.2.2 a ha a (List.mem_flatten.mpr ⟨g, List.mem_of_getElem? (by simpa using h2), z⟩) rfl
  | x :: r, i + 1, 0, f, g, a, nd, h1, h2, _, ha => by
    rw [List.flatten_cons, List.nodup_append] at nd
    simp at h2
    subst h2
    exact fun z => nd.2.2 a z a (List.mem_flatten.mpr ⟨f, List.mem_of_getElem? (by simpa using h1), ha⟩) rfl
  | x :: r, i + 1, j + 1, f, g, a, nd, h1, h2, n, ha => by
    rw [List.flatten_cons, List.nodup_append] at nd
    exact disj_flat nd.2.1 (by simpa using h1) (by simpa using h2) (by omega) ha
theorem nodup_one : ∀ {fps : List (List Addr)} {i : Nat} {f : List Addr}, fps.flatten.Nodup → fps[i]? = some f → f.Nodup
  | [], _, _, _, h => by simp at h
  | x :: r, 0, _, nd, h => by
    rw [List.flatten_cons, List.nodup_append] at nd
    simp at h
    subst h
    exact nd.1
  | x :: r, i + 1, _, nd, h => by
    rw [List.flatten_cons, List.nodup_append] at nd
    exact nodup_one nd.2.1 (by simpa using h)
theorem R.reslot {fps : List (List Addr)} {i : Nat} {s : Option V} {fp fp' : List Addr} {sl' : Option Sl} (hs : SlRs W G H σ e fps) (nd : fps.flatten.Nodup) (h3 : ∀ a ∈ fps.flatten, G a = none ∧ W.B a = none ∧ a ≠ W.pa) (hi : σ[i]? = some s) (hf : fps[i]? = some fp)
    (b : Base W G' p' H') (sg : Sub G G') (q : SlR W G' H' s sl' fp') (k : ∀ a ∈ fps.flatten, a ∉ fp → ∀ o, H a = some o → H' a = some o) (g : ∀ a ∈ fps.flatten, a ∉ fp → G' a = none) (n2 : fp'.Nodup)
    (new : ∀ a ∈ fp', (a ∈ fp ∨ a ∉ fps.flatten) ∧ G' a = none ∧ W.B a = none ∧ a ≠ W.pa) : R W G' (e.set i sl') p' σ H' := by
  have other : ∀ j, j ≠ i → ∀ f, fps[j]? = some f → ∀ a ∈ f, a ∈ fps.flatten ∧ a ∉ fp := fun j hj f hf' a ha => ⟨List.mem_flatten.mpr ⟨f, List.mem_of_getElem? hf', ha⟩, disj_flat nd hf' hf hj ha⟩
  refine ⟨b, fps.set i fp', SlRs.reslot sg q i hs hi fun j hj f hf' a ha o ho => ?_, nodup_set2 nd n2 fun j hj f hf' a ha z => ?_, fun a ha => ?_⟩
  · obtain ⟨m, n⟩ := other j hj f hf' a ha
    exact k a m n o ho
  · obtain ⟨m, n⟩ := other j hj f hf' a z
    rcases (new a ha).1 with h | h
    · exact n h
    · exact h m
  · -- an address of a slot
    obtain ⟨f, hf', hm⟩ := List.mem_flatten.mp ha
    obtain ⟨j, hj⟩ := List.getElem?_of_mem hf'
    by_cases z : j = i
    · subst z
      rw [List.getElem?_set_self (by
        have := (List.getElem?_eq_some_iff.mp hf).1
        exact this)] at hj
      cases hj
      exact (new a hm).2
    · rw [List.getElem?_set_ne (Ne.symm z)] at hj
      obtain ⟨m, n⟩ := other j z f hj a hm
      exact ⟨g a m n, (h3 a m).2⟩
theorem SlRs.snoc {s : Option V} {sl : Option Sl} {fp : List Addr} (q : SlR W G H s sl fp) : ∀ {σ : L2.St} {e : Ev} {fps : List (List Addr)}, SlRs W G H σ e fps → SlRs W G H (σ ++ [s]) (e ++ [sl]) (fps ++ [fp])
  | _, _, _, .nil => .cons q .nil
  | _, _, _, .cons t r => .cons t (SlRs.snoc q r)
theorem SlRs.last {s : Option V} {sl : Option Sl} : ∀ {σ : L2.St} {e : Ev} {gps : List (List Addr)}, SlRs W G H (σ ++ [s]) (e ++ [sl]) gps → σ.length = e.length → ∃ fps fp, gps = fps ++ [fp] ∧ SlRs W G H σ e fps ∧ SlR W G H s sl fp
  | [], [], _, h, _ => by
    cases h with
    | cons q r =>
      cases r
      exact ⟨[], _, rfl, .nil, q⟩
  | x :: σ, y :: e, _, h, hl => by
    cases h with
    | cons q r =>
      obtain ⟨fps, fp, rfl, h1, h2⟩ := SlRs.last r (by simpa using hl)
      exact ⟨_ :: fps, fp, rfl, .cons q h1, h2⟩
  | [], _ :: _, _, _, hl => by simp at hl
  | _ :: _, [], _, _, hl => by simp at hl
theorem R.pad (r : R W G e p σ H) : R W G (e ++ [none]) p (σ ++ [none]) H := by
  obtain ⟨fps, h1, h2, h3⟩ := r.sls
  exact ⟨r.base, fps ++ [[]], h1.snoc .emp, by simpa using h2, fun a ha => h3 a (by simpa using ha)⟩
theorem R.init {sl : Option Sl} {s : Option V} (r : R W G (e ++ [sl]) p (σ ++ [s]) H) : R W G e p σ H := by
  obtain ⟨gps, h1, h2, h3⟩ := r.sls
  have hl := h1.length
  rw [List.length_append, List.length_append, List.length_singleton, List.length_singleton] at hl
  obtain ⟨fps, fp, rfl, h4, h5⟩ := h1.last (by omega)
  rw [List.flatten_append, List.nodup_append] at h2
  exact ⟨r.base, fps, h4, h2.1, fun a ha => h3 a (by rw [List.flatten_append]; exact List.mem_append_left _ ha)⟩
theorem R.move {sl : Option Sl} {s : Option V} (r : R W G (e ++ [sl]) p (σ ++ [s]) H) (i : Nat) : R W G (e.set i sl) p (σ.set i s) H := by
  obtain ⟨gps, h1, h2, h3⟩ := r.sls
  have hl := h1.length
  rw [List.length_append, List.length_append, List.length_singleton, List.length_singleton] at hl
  obtain ⟨fps, fp, rfl, h4, h5⟩ := h1.last (by omega)
  rw [List.flatten_append, List.nodup_append] at h2
  have ef : ([fp] : List (List Addr)).flatten = fp := by simp
  rw [ef] at h2
  refine ⟨r.base, fps.set i fp, h4.set i h5, nodup_set_flatten h2.1 h2.2.1 (fun a ha z => h2.2.2 a z a ha rfl), fun a ha => ?_⟩
  rcases mem_set_flatten ha with q | q
  · exact h3 a (by rw [List.flatten_append, ef]; exact List.mem_append_right _ q)
  · exact h3 a (by rw [List.flatten_append]; exact List.mem_append_left _ q)
theorem RowsR.length {bs : List Addr} {rows : List (List D)} (h : RowsR W G H bs rows) : bs.length = rows.length := by
  induction h with
  | nil => rfl
  | cons _ _ _ ih => simp [ih]
theorem RowsR.snoc {b : Addr} {vs : List V} {xs : List D} (h1 : H b = some (.lst vs)) (h2 : Reps W.K W.mg W.pa G vs xs) {bs : List Addr} {rows : List (List D)} (h : RowsR W G H bs rows) : RowsR W G H (bs ++ [b]) (rows ++ [xs]) := by
  induction h with
  | nil => exact .cons h1 h2 .nil
  | cons q1 q2 _ ih => exact .cons q1 q2 ih
theorem R.addOwn2 (r : R W G e p σ H) {c : Addr} (h : H c = none) : R W G (e ++ [some (.own2 [])]) p (σ ++ [some (.ref c)]) (upd H c (.lst [])) := by
  have r1 := r.pad.storeOwn (a := c) (vs := []) (xs := []) e.length h .nil
  have e1 : (e ++ [none]).set e.length (some (.own [])) = e ++ [some (.own [])] := by simp
  have e2 : (σ ++ [none]).set e.length (some (.ref c)) = σ ++ [some (.ref c)] := by rw [← r.len]; simp
  rw [e1, e2] at r1
  obtain ⟨gps, h1, h2, h3⟩ := r1.sls
  obtain ⟨fps, fp, rfl, h4, h5⟩ := h1.last r.len
  cases h5 with
  | lis ha _ => exact ⟨r1.base, fps ++ [[c]], h4.snoc (.lis2 (bs := []) (by rw [List.map_nil]; exact upd_same) .nil), h2, h3⟩
theorem R.addOwn (r : R W G e p σ H) {c : Addr} (h : H c = none) : R W G (e ++ [some (.own [])]) p (σ ++ [some (.ref c)]) (upd H c (.lst [])) := by
  have r1 := r.pad.storeOwn (a := c) (vs := []) (xs := []) e.length h .nil
  have e1 : (e ++ [none]).set e.length (some (.own [])) = e ++ [some (.own [])] := by simp
  have e2 : (σ ++ [none]).set e.length (some (.ref c)) = σ ++ [some (.ref c)] := by rw [← r.len]; simp
  rw [e1, e2] at r1
  exact r1
theorem R.getOwn2 (r : R W G e p σ H) {i : Nat} {rows : List (List D)} (h : e[i]? = some (some (.own2 rows))) :
    ∃ a bs, σ[i]? = some (some (.ref a)) ∧ H a = some (.lst (bs.map V.ref)) ∧ RowsR W G H bs rows ∧ (a :: bs).Nodup ∧ (∀ b ∈ a :: bs, G b = none ∧ W.B b = none ∧ b ≠ W.pa) ∧
      ∃ fps, SlRs W G H σ e fps ∧ fps.flatten.Nodup ∧ (∀ a ∈ fps.flatten, G a = none ∧ W.B a = none ∧ a ≠ W.pa) ∧ fps[i]? = some (a :: bs) := by
  obtain ⟨fps, h1, h2, h3⟩ := r.sls
  obtain ⟨s, fp, q1, q2, q3⟩ := h1.get h
  cases q3 with
  | lis2 ha hr =>
    rename_i a bs
    have nd : (a :: bs).Nodup := nodup_one h2 q2
    exact ⟨a, bs, q1, ha, hr, nd, fun b hb => h3 b (List.mem_flatten.mpr ⟨_, List.mem_of_getElem? q2, hb⟩), fps, h1, h2, h3, q2⟩
theorem R.push2 (r : R W G e p σ H) {i : Nat} {rows : List (List D)} (h : e[i]? = some (some (.own2 rows))) {b : Addr} (hb : H b = none) {vs : List V} {xs : List D} (hv : RepsW W G vs xs) :
    ∃ a acc, σ[i]? = some (some (.ref a)) ∧ H a = some (.lst acc) ∧ acc.length = rows.length ∧ a ≠ b ∧ R W G (e.set i (some (.own2 (rows ++ [xs])))) p σ (upd (upd H b (.lst vs)) a (.lst (acc ++ [.ref b]))) := by
  obtain ⟨a, bs, h1, h2, h3, nd, h4, fps, k1, k2, k3, k4⟩ := r.getOwn2 h
  obtain ⟨f1, f2, f3⟩ := r.base.free hb
  have nab : a ≠ b := fun z => by rw [z, hb] at h2; cases h2
  have nin : b ∉ fps.flatten := fun z => k1.there b z hb
  obtain ⟨g1, g2, g3⟩ := h4 a (by simp)
  have b1 : Base W G p (upd (upd H b (.lst vs)) a (.lst (bs.map V.ref ++ [.ref b]))) :=
    (r.base.write f2 f1 f3 (by rw [hb]; exact Soft.none)).write g1 g2 g3 (by rw [upd_ne nab, h2]; exact soft_lst _)
  refine ⟨a, bs.map V.ref, h1, h2, by rw [List.length_map, h3.length], nab, R.reslot k1 k2 k3 h1 k4 b1 (Sub.refl G) (fp' := a :: (bs ++ [b])) (.lis2 (by rw [List.map_append]; exact upd_same) ?_) (fun c hc hn o ho => ?_) (fun c hc _ => (k3 c hc).1) ?_ fun c hc => ?_⟩
  · refine RowsR.snoc (by rw [upd_ne nab.symm, upd_same]) hv (h3.mono (Sub.refl G) fun c hc o ho => ?_)
    have n1 : c ≠ a := fun z => by rw [z] at hc; exact (List.nodup_cons.mp nd).1 hc
    have n2 : c ≠ b := fun z => by rw [z, hb] at ho; cases ho
    rw [upd_ne n1, upd_ne n2]
    exact ho
  · have n1 : c ≠ a := fun z => hn (by rw [z]; simp)
    have n2 : c ≠ b := fun z => by rw [z, hb] at ho; cases ho
    rw [upd_ne n1, upd_ne n2]
    exact ho
  · obtain ⟨n1, n2⟩ := List.nodup_cons.mp nd
    refine List.nodup_cons.mpr ⟨fun z => ?_, List.nodup_append.mpr ⟨n2, by simp, fun x hx y hy => ?_⟩⟩
    · rcases List.mem_append.mp z with z | z
      · exact n1 z
      · exact nab (List.mem_singleton.mp z)
    · rw [List.mem_singleton.mp hy]
      rintro rfl
      exact nin (List.mem_flatten.mpr ⟨_, List.mem_of_getElem? k4, List.mem_cons_of_mem _ hx⟩)
  · rcases List.mem_cons.mp hc with rfl | hc
    · exact ⟨.inl (by simp), g1, g2, g3⟩
    · rcases List.mem_append.mp hc with hc | hc
      · exact ⟨.inl (List.mem_cons_of_mem _ hc), h4 c (List.mem_cons_of_mem _ hc)⟩
      · rw [List.mem_singleton.mp hc]
        exact ⟨.inr nin, f2, f1, f3⟩
theorem RowsR.put {b : Addr} {vs : List V} {xs : List D} : ∀ {bs : List Addr} {rows : List (List D)} {k : Nat}, RowsR W G H bs rows → bs.Nodup → bs[k]? = some b → RepsW W G vs xs → RowsR W G (upd H b (.lst vs)) bs (rows.set k xs)
  | _, _, _, .nil, _, h, _ => by simp at h
  | _, _, 0, .cons q1 q2 r, nd, h, hv => by
    simp at h
    subst h
    refine .cons upd_same hv (r.mono (Sub.refl G) fun c hc o ho => ?_)
    rw [upd_ne (fun z => (List.nodup_cons.mp nd).1 (by rw [← z]; exact hc))]
    exact ho
  | _, _, k + 1, .cons q1 q2 r, nd, h, hv => by
    have hm : b ∈ _ := List.mem_of_getElem? (show _ = some b by simpa using h)
    refine .cons (by rw [upd_ne (fun z => (List.nodup_cons.mp nd).1 (by rw [z]; exact hm))]; exact q1) q2 (RowsR.put r (List.nodup_cons.mp nd).2 (by simpa using h) hv)
theorem RowsR.at_ : ∀ {bs : List Addr} {rows : List (List D)} {k : Nat} {xs : List D}, RowsR W G H bs rows → rows[k]? = some xs → ∃ b vs, bs[k]? = some b ∧ H b = some (.lst vs) ∧ RepsW W G vs xs
  | _, _, _, _, .nil, h => by simp at h
  | _, _, 0, _, .cons q1 q2 r, h => by
    simp at h
    subst h
    exact ⟨_, _, rfl, q1, q2⟩
  | _, _, k + 1, _, .cons q1 q2 r, h => by
    obtain ⟨b, vs, h1, h2, h3⟩ := RowsR.at_ (k := k) r (by simpa using h)
    exact ⟨b, vs, by simpa using h1, h2, h3⟩
theorem R.put2 (r : R W G e p σ H) {i k : Nat} {rows : List (List D)} {xs : List D} (h : e[i]? = some (some (.own2 rows))) (hk : rows[k]? = some xs) :
    ∃ a acc b vs, σ[i]? = some (some (.ref a)) ∧ H a = some (.lst acc) ∧ acc.length = rows.length ∧ acc[k]? = some (.ref b) ∧ H b = some (.lst vs) ∧ RepsW W G vs xs ∧
      ∀ us ys, RepsW W G us ys → R W G (e.set i (some (.own2 (rows.set k ys)))) p σ (upd H b (.lst us)) := by
  obtain ⟨a, bs, h1, h2, h3, nd, h4, fps, k1, k2, k3, k4⟩ := r.getOwn2 h
  obtain ⟨b, vs, q1, q2, q3⟩ := h3.at_ hk
  have hm : b ∈ bs := List.mem_of_getElem? q1
  obtain ⟨n1, n2⟩ := List.nodup_cons.mp nd
  have nab : a ≠ b := fun z => n1 (by rw [z]; exact hm)
  obtain ⟨g1, g2, g3⟩ := h4 b (List.mem_cons_of_mem _ hm)
  refine ⟨a, bs.map V.ref, b, vs, h1, h2, by rw [List.length_map, h3.length], by rw [List.getElem?_map, q1]; rfl, q2, q3, fun us ys hu => ?_⟩
  refine R.reslot k1 k2 k3 h1 k4 (r.base.write g1 g2 g3 (by rw [q2]; exact soft_lst _)) (Sub.refl G) (fp' := a :: bs) (.lis2 (by rw [upd_ne nab]; exact h2) (h3.put n2 q1 hu)) (fun c hc hn o ho => ?_) (fun c hc _ => (k3 c hc).1) nd fun c hc => ⟨.inl hc, h4 c hc⟩
  rw [upd_ne (fun z => hn (by rw [z]; exact List.mem_cons_of_mem _ hm))]
  exact ho
theorem RowsR.still : ∀ {bs : List Addr} {rows : List (List D)} {G : Hp}, RowsR W G H bs rows → Base W G p H → bs.Nodup → (∀ b ∈ bs, G b = none ∧ W.B b = none ∧ b ≠ W.pa) →
    ∃ G', Sub G G' ∧ Base W G' p H ∧ RepsW W G' (bs.map V.ref) (rows.map D.lst) ∧ ∀ c, c ∉ bs → G' c = G c
  | _, _, G, .nil, b, _, _ => ⟨G, Sub.refl G, b, .nil, fun _ _ => rfl⟩
  | _, _, G, .cons (b := b0) (vs := vs) (bs := bs) q1 q2 r, b, nd, h => by
    obtain ⟨n1, n2⟩ := List.nodup_cons.mp nd
    obtain ⟨g1, g2, g3⟩ := h b0 (by simp)
    have b1 := b.still q1 g1 g2 g3
    have s1 : Sub G (upd G b0 (.lst vs)) := Sub.new g1
    obtain ⟨G', s2, b2, rp, ho⟩ := RowsR.still (r.mono s1 fun _ _ _ q => q) b1 n2 fun c hc => by
      refine ⟨?_, (h c (List.mem_cons_of_mem _ hc)).2⟩
      rw [upd_ne (fun z => n1 (by rw [← z]; exact hc))]
      exact (h c (List.mem_cons_of_mem _ hc)).1
    refine ⟨G', s1.trans s2, b2, .cons (.lst (s2 _ _ upd_same) (q2.mono (s1.trans s2))) rp, fun c hc => ?_⟩
    rw [ho c (fun z => hc (List.mem_cons_of_mem _ z)), upd_ne (fun z => hc (by rw [z]; simp))]
theorem R.still2 (r : R W G e p σ H) {i : Nat} {rows : List (List D)} (h : e[i]? = some (some (.own2 rows))) :
    ∃ G' v, Sub G G' ∧ σ[i]? = some (some v) ∧ RepW W G' v (.lst (rows.map D.lst)) ∧ R W G' (e.set i (some (.v (.lst (rows.map D.lst))))) p σ H := by
  obtain ⟨a, bs, h1, h2, h3, nd, h4, fps, k1, k2, k3, k4⟩ := r.getOwn2 h
  obtain ⟨n1, n2⟩ := List.nodup_cons.mp nd
  obtain ⟨G1, s1, b1, rp, ho⟩ := h3.still r.base n2 fun b hb => h4 b (List.mem_cons_of_mem _ hb)
  obtain ⟨g1, g2, g3⟩ := h4 a (by simp)
  have g1' : G1 a = none := (ho a n1).trans g1
  have b2 := b1.still h2 g1' g2 g3
  have s2 : Sub G1 (upd G1 a (.lst (bs.map V.ref))) := Sub.new g1'
  have rep : RepW W (upd G1 a (.lst (bs.map V.ref))) (.ref a) (.lst (rows.map D.lst)) := .lst upd_same (rp.mono s2)
  refine ⟨_, .ref a, s1.trans s2, h1, rep, ?_⟩
  refine R.reslot k1 k2 k3 h1 k4 b2 (s1.trans s2) (fp' := []) (.val rep) (fun c hc hn o ho => ho) (fun c hc hn => ?_) List.nodup_nil fun c hc => by cases hc
  rw [upd_ne (fun z => hn (by rw [z]; simp)), ho c (fun z => hn (List.mem_cons_of_mem _ z))]
  exact (k3 c hc).1
end
end Pd

namespace Pd
open PySem PySem.Spec L2 PyProof.Rows RZ
def VR (W : Wd) (G : Hp) (σ : L2.St) (e : Ev) : Prop := ∀ H, ∃ fps, SlRs W G H σ e fps ∧ fps.flatten = []
theorem VR.mono {W : Wd} {G G' : Hp} {σ : L2.St} {e : Ev} (v : VR W G σ e) (s : Sub G G') : VR W G' σ e := fun H => by
  obtain ⟨fps, h1, h2⟩ := v H
  exact ⟨fps, h1.mono s (fun a ha => by rw [h2] at ha; cases ha), h2⟩
theorem SlRs.to {W W' : Wd} {G H : Hp} (hK : W'.K = W.K) (hm : W'.mg = W.mg) (hp : W'.pa = W.pa) : ∀ {σ : L2.St} {e : Ev} {fps : List (List Addr)}, SlRs W G H σ e fps → fps.flatten = [] → SlRs W' G H σ e fps
  | _, _, _, .nil, _ => .nil
  | _, _, _, .cons q r, h => by
    rw [List.flatten_cons, List.append_eq_nil_iff] at h
    refine .cons ?_ (SlRs.to hK hm hp r h.2)
    cases q with
    | emp => exact .emp
    | val q => exact .val (by rw [hK, hm, hp]; exact q)
    | lis _ _ => simp at h
    | lis2 _ _ => simp at h
    | ins _ _ _ _ | dk _ _ _ | dt _ _ _ => simp at h
theorem VR.r {X : Cx} {w w' : Wl} {G H : Hp} {σ : L2.St} {e : Ev} {p : Pen} (v : VR (wd X w) G σ e) (hp : w'.pa = w.pa) (b : Base (wd X w') G p H) : R (wd X w') G e p σ H := by
  obtain ⟨fps, h1, h2⟩ := v H
  exact ⟨b, fps, SlRs.to (W := wd X w) (W' := wd X w') rfl rfl hp h1 h2, by rw [h2]; exact List.nodup_nil, fun a ha => by rw [h2] at ha; cases ha⟩
theorem VR.to {X : Cx} {w w' : Wl} {G : Hp} {σ : L2.St} {e : Ev} (v : VR (wd X w) G σ e) (hp : w'.pa = w.pa) : VR (wd X w') G σ e := fun H => by
  obtain ⟨fps, h1, h2⟩ := v H
  exact ⟨fps, SlRs.to (W := wd X w) (W' := wd X w') rfl rfl hp h1 h2, h2⟩
theorem R.vr {W : Wd} {G H : Hp} {e : Ev} {p : Pen} {σ : L2.St} (r : R W G e p σ H) (vs : List Nat) : VR W G (L2.wipe σ vs) (mask vs e) := fun H' => by
  obtain ⟨fps, h1, _⟩ := r.sls
  have m : SlRs W G H' σ (e.map unown) (e.map fun _ => []) := SlRs.mask0 rfl rfl rfl h1
  obtain ⟨f, k1, k2⟩ := m.wipe vs
  have z : (e.map fun _ => ([] : List Addr)).flatten = [] := by
    clear m k1 k2 h1
    induction e with
    | nil => rfl
    | cons _ _ ih => simp
  exact ⟨f, k1, by rw [z] at k2; exact List.sublist_nil.mp k2⟩
theorem Base.rebase {X : Cx} {w : Wl} {G H : Hp} {p : Pen} (b : Base (wd X w) G p H) : Base (wd X ⟨w.pa, noTab H, G, 0⟩) G p H :=
  ⟨b.sub, Sub.refl G, fun a h => .inl h, fun a o h _ _ => noTab_sub H h, b.gt, fun a ps => noTab_nt H a ps, b.tab, b.pen⟩
theorem wipe_nil (σ : L2.St) : L2.wipe σ [] = σ := rfl
theorem unown_unown (s : Option Sl) : unown (unown s) = unown s := by
  cases s with
  | none => rfl
  | some s => cases s <;> rfl
theorem wipeE_map {f : Option Sl → Option Sl} (hf : f none = none) (e : Ev) : ∀ vs : List Nat, (wipeE e vs).map f = wipeE (e.map f) vs
  | [] => rfl
  | v :: vs => by
    show ((wipeE e vs).set v none).map f = (wipeE (e.map f) vs).set v none
    rw [List.map_set, hf, wipeE_map hf e vs]
theorem wipeE_set {i : Nat} {x : Option Sl} : ∀ {vs : List Nat} {e : Ev}, i ∈ vs → wipeE (e.set i x) vs = wipeE e vs
  | v :: vs, e, h => by
    show (wipeE (e.set i x) vs).set v none = (wipeE e vs).set v none
    by_cases q : i ∈ vs
    · rw [wipeE_set q]
    · have e1 : i = v := by
        rcases List.mem_cons.mp h with h | h
        · exact h
        · exact absurd h q
      subst e1
      have : ∀ us : List Nat, i ∉ us → wipeE (e.set i x) us = (wipeE e us).set i x := by
        intro us
        induction us with
        | nil => intro _; rfl
        | cons u us ih =>
          intro hu
          show (wipeE (e.set i x) us).set u none = ((wipeE e us).set u none).set i x
          rw [ih fun z => hu (List.mem_cons_of_mem _ z), List.set_comm]
          exact fun z => hu (by rw [z]; exact List.mem_cons_self)
      rw [this vs q, List.set_set]
def compGo2 (g : GM) (t : TM) (it1 : AM) (vs1 : List Nat) (g1 : GM) (t1 : TM) (f : EM) (eb : Ev) : List D → Pen → Option (List D × Pen)
  | [], p => some ([], p)
  | x :: xs, p => match g x eb with
    | none => none
    | some e1 => match t e1 p with
      | .ok true e2 p2 => (match it1 e2 p2 with
        | .ok ds e3 p3 => (match compGo g1 t1 f (mask vs1 e3) ds p3 with
          | some (ys, p4) => (compGo2 g t it1 vs1 g1 t1 f eb xs p4).map fun q => (ys ++ q.1, q.2)
          | none => none)
        | _ => none)
      | .ok false _ p2 => compGo2 g t it1 vs1 g1 t1 f eb xs p2
      | _ => none
def fComp2 (js : List Nat) (it : AM) (vs : List Nat) (g : GM) (t : TM) (it1 : AM) (vs1 : List Nat) (g1 : GM) (t1 : TM) (f : EM) : AM := fun e p => (it (freeze js e) p).bind fun ds e p =>
    match compGo2 g t it1 vs1 g1 t1 f (mask vs e) ds p with
    | some (xs, p') => if small xs.length then .ok xs e p' else .bad
    | none => .bad
def compGoF (g : GM) (t : TM) (f : AM) (eb : Ev) : List D → Pen → Option (List (List D) × Pen)
  | [], p => some ([], p)
  | x :: xs, p => match g x eb with
    | none => none
    | some e1 => match t e1 p with
      | .ok true e2 p2 => (match f e2 p2 with
        | .ok d _ p3 => (compGoF g t f eb xs p3).map fun q => (d :: q.1, q.2)
        | _ => none)
      | .ok false _ p2 => compGoF g t f eb xs p2
      | _ => none
def sCompF (js : List Nat) (it : AM) (vs : List Nat) (g : GM) (t : TM) (f : AM) (i : Nat) : SM := fun e p => toS (it (freeze js e) p) fun ds e p =>
    match compGoF g t f (mask vs e) ds p with
    | some (rows, p') => if small rows.length then .nx (e.set i (some (.own2 rows))) p' else .bad
    | none => .bad
section
variable {X : Cx}
theorem coreG {J : It} {ds : List D} {g : GM} {t : TM} {f : EM} {ks vs : List Nat} {w : Wl} {G1 : Hp} {e1 em : Ev} {p1 : Pen} {σ σm : L2.St} {H1 : Hp} {c : Addr} {Qd : Hp → Prop} {ds0 : List D} {xs : List D} {p' : Pen} (hks : ∀ k ∈ ks, k ∈ vs)
    (wk : WalkD (wd X w) G1 J ds) (hl : ds0.length + xs.length ≤ 10000000) (r : R (wd X w) G1 (e1 ++ [some (.own ds0)]) p1 (σ ++ [some (.ref c)]) H1) (vm : VR (wd X w) G1 (L2.wipe σm vs) (mask vs em)) (hgo : compGo g t f (mask vs em) ds p1 = some (xs, p'))
    (hQ : ∀ G2 H2, Sub G1 G2 → R (wd X w) G2 (e1 ++ [some (.own (ds0 ++ xs))]) p' (σ ++ [some (.ref c)]) H2 → Qd H2) :
    ∃ Wm : Nat → Nat → Hp → Prop, (∃ m, Wm 0 m H1) ∧ ∀ i m H, Wm i m H → (J.stop i H ∧ Qd H) ∨ (J.go i H ∧ ∃ Nx : Hp → Prop, (∀ H', Nx H' → ∃ m', m' < m ∧ Wm (i + 1) m' H') ∧ ∀ x H', J.yld i H x H' → (tG X ks g) x (L2.wipe σm vs) H' fun σ2 H2 => L2.wipe σ2 vs = L2.wipe σm vs ∧ (tT X WF t) σ2 H2 fun b H3 =>
      if b = true then (tE X WF f) σ2 H3 fun y H4 => ∃ acc, H4 c = some (.lst acc) ∧ acc.length < sizeLine ∧ Nx (upd H4 c (.lst (acc ++ [y]))) else Nx H3) := by
  obtain ⟨Gd, Y, wk, hgd, hy⟩ := wk
  have hle : σ.length = e1.length := by
    have := r.len
    simpa using this
  have hlast : ∀ s : Option Sl, (e1 ++ [s])[e1.length]? = some s := fun s => by simp
  have hlastσ : (σ ++ [some (V.ref c)])[e1.length]? = some (some (.ref c)) := by rw [← hle]; simp
  let Pv : Nat → Hp → Prop := fun i H => ∃ G2 ds2 p2 xs2, Sub G1 G2 ∧ R (wd X w) G2 (e1 ++ [some (.own ds2)]) p2 (σ ++ [some (.ref c)]) H ∧ compGo g t f (mask vs em) (ds.drop i) p2 = some (xs2, p') ∧ ds2 ++ xs2 = ds0 ++ xs
  refine ⟨fun i m H => m = ds.length - i ∧ i ≤ ds.length ∧ Pv i H, ⟨ds.length, by simp, Nat.zero_le _, G1, ds0, p1, xs, Sub.refl _, r, hgo, rfl⟩, ?_⟩
  rintro i m H ⟨rfl, hi, G2, ds2, p2, xs2, s2, r2, hg2, he2⟩
  have hG := hgd H (s2.trans r2.sub)
  by_cases hlt : i < ds.length
  · refine .inr ⟨wk.goes i H hlt hG, Pv (i + 1), fun H' p' => ⟨ds.length - (i + 1), by omega, rfl, hlt, p'⟩, fun x H' y => ?_⟩
    obtain ⟨d, hd, hx⟩ := hy i H x H' hlt hG (wk.yields i H x H' hlt hG y)
    obtain ⟨G3, al, hv⟩ := hx G2 s2 r2.sub
    obtain ⟨r3, s3⟩ := r2.alloc' al
    have hdr : ds.drop i = d :: ds.drop (i + 1) := by
      obtain ⟨hlt', he⟩ := List.getElem?_eq_some_iff.mp hd
      rw [← he]
      exact List.drop_eq_getElem_cons hlt'
    rw [hdr] at hg2
    unfold compGo at hg2
    cases hg : g d (mask vs em) with
    | none => simp only [hg] at hg2; cases hg2
    | some e4 =>
      simp only [hg] at hg2
      have rb : R (wd X ⟨w.pa, noTab H', G3, 0⟩) G3 (mask vs em) p2 (L2.wipe σm vs) H' := (vm.mono (s2.trans s3)).r (w := w) (w' := ⟨w.pa, noTab H', G3, 0⟩) rfl r3.base.rebase
      refine ⟨⟨w.pa, noTab H', G3, 0⟩, G3, mask vs em, p2, d, rb, hv, e4, hg, fun σ4 bt r4 => ⟨(bt vs hks).trans (wipe_wipe σm vs), ⟨w.pa, noTab H', G3, 0⟩, G3, e4, p2, r4, ?_⟩⟩
      cases ht : t e4 p2 with
      | bad => simp only [ht] at hg2; cases hg2
      | exc x e5 p5 => simp only [ht] at hg2; cases hg2
      | ok k e5 p5 =>
        intro G5 k' H5 s5 r5 hk
        have hk' : k' = k := hk
        subst hk'
        cases k' with
        | false =>
          simp only [ht] at hg2
          obtain ⟨q5, s35⟩ := r3.after r5.base
          exact ⟨G5, ds2, p5, xs2, s2.trans (s3.trans s35), q5, hg2, he2⟩
        | true =>
          simp only [ht] at hg2
          refine ⟨⟨w.pa, noTab H', G3, 0⟩, G5, e5, p5, r5, ?_⟩
          cases hf : f e5 p5 with
          | bad => simp only [hf] at hg2; cases hg2
          | exc x e6 p6 => simp only [hf] at hg2; cases hg2
          | ok d6 e6 p6 =>
            simp only [hf] at hg2
            intro G6 y6 H6 s6 r6 hy6
            obtain ⟨q6, s36⟩ := r3.after r6.base
            obtain ⟨c', acc, k1, k2, k3, _, _, _, k7, _⟩ := q6.getOwn (hlast _)
            rw [hlastσ] at k1
            cases k1
            cases hrest : compGo g t f (mask vs em) (ds.drop (i + 1)) p6 with
            | none => rw [hrest] at hg2; cases hg2
            | some q =>
              obtain ⟨q1, q2⟩ := q
              rw [hrest] at hg2
              cases hg2
              have hll : acc.length = ds2.length := k3.length
              have hle2 : ds2.length + (q1.length + 1) = ds0.length + xs.length := by
                have := congrArg List.length he2
                simpa using this
              refine ⟨acc, k2, by rw [hll]; exact small.lt (by unfold small; omega), G6, ds2 ++ [d6], p6, q1, s2.trans (s3.trans s36), ?_, hrest, by rw [List.append_assoc]; exact he2⟩
              have := k7 (acc ++ [y6]) (ds2 ++ [d6]) (k3.append (.cons hy6 .nil))
              have e2 : (e1 ++ [some (Sl.own ds2)]).set e1.length (some (.own (ds2 ++ [d6]))) = e1 ++ [some (.own (ds2 ++ [d6]))] := by simp
              rw [e2] at this
              exact this
  · have e : i = ds.length := by omega
    subst e
    rw [List.drop_length] at hg2
    have : xs2 = [] ∧ p2 = p' := by
      have h : some (([] : List D), p2) = some (xs2, p') := hg2
      cases h
      exact ⟨rfl, rfl⟩
    obtain ⟨rfl, rfl⟩ := this
    rw [List.append_nil] at he2
    subst he2
    exact .inl ⟨wk.stops H hG, hQ G2 H s2 r2⟩
theorem coreF {J : It} {ds : List D} {g : GM} {t : TM} {f : AM} {ks vs : List Nat} {w : Wl} {G1 : Hp} {e1 em : Ev} {p1 : Pen} {σ σm : L2.St} {H1 : Hp} {c : Addr} {Qd : Hp → Prop} {ds0 : List (List D)} {xs : List (List D)} {p' : Pen} (hks : ∀ k ∈ ks, k ∈ vs)
    (wk : WalkD (wd X w) G1 J ds) (hl : ds0.length + xs.length ≤ 10000000) (r : R (wd X w) G1 (e1 ++ [some (.own2 ds0)]) p1 (σ ++ [some (.ref c)]) H1) (vm : VR (wd X w) G1 (L2.wipe σm vs) (mask vs em)) (hgo : compGoF g t f (mask vs em) ds p1 = some (xs, p'))
    (hQ : ∀ G2 H2, Sub G1 G2 → R (wd X w) G2 (e1 ++ [some (.own2 (ds0 ++ xs))]) p' (σ ++ [some (.ref c)]) H2 → Qd H2) :
    ∃ Wm : Nat → Nat → Hp → Prop, (∃ m, Wm 0 m H1) ∧ ∀ i m H, Wm i m H → (J.stop i H ∧ Qd H) ∨ (J.go i H ∧ ∃ Nx : Hp → Prop, (∀ H', Nx H' → ∃ m', m' < m ∧ Wm (i + 1) m' H') ∧ ∀ x H', J.yld i H x H' → (tG X ks g) x (L2.wipe σm vs) H' fun σ2 H2 => L2.wipe σ2 vs = L2.wipe σm vs ∧ (tT X WF t) σ2 H2 fun b H3 =>
      if b = true then (tF X WF f) σ2 H3 fun y H4 => ∃ acc, H4 c = some (.lst acc) ∧ acc.length < sizeLine ∧ Nx (upd H4 c (.lst (acc ++ [y]))) else Nx H3) := by
  obtain ⟨Gd, Y, wk, hgd, hy⟩ := wk
  have hle : σ.length = e1.length := by
    have := r.len
    simpa using this
  have hlast : ∀ s : Option Sl, (e1 ++ [s])[e1.length]? = some s := fun s => by simp
  have hlastσ : (σ ++ [some (V.ref c)])[e1.length]? = some (some (.ref c)) := by rw [← hle]; simp
  let Pv : Nat → Hp → Prop := fun i H => ∃ G2 ds2 p2 xs2, Sub G1 G2 ∧ R (wd X w) G2 (e1 ++ [some (.own2 ds2)]) p2 (σ ++ [some (.ref c)]) H ∧ compGoF g t f (mask vs em) (ds.drop i) p2 = some (xs2, p') ∧ ds2 ++ xs2 = ds0 ++ xs
  refine ⟨fun i m H => m = ds.length - i ∧ i ≤ ds.length ∧ Pv i H, ⟨ds.length, by simp, Nat.zero_le _, G1, ds0, p1, xs, Sub.refl _, r, hgo, rfl⟩, ?_⟩
  rintro i m H ⟨rfl, hi, G2, ds2, p2, xs2, s2, r2, hg2, he2⟩
  have hG := hgd H (s2.trans r2.sub)
  by_cases hlt : i < ds.length
  · refine .inr ⟨wk.goes i H hlt hG, Pv (i + 1), fun H' p' => ⟨ds.length - (i + 1), by omega, rfl, hlt, p'⟩, fun x H' y => ?_⟩
    obtain ⟨d, hd, hx⟩ := hy i H x H' hlt hG (wk.yields i H x H' hlt hG y)
    obtain ⟨G3, al, hv⟩ := hx G2 s2 r2.sub
    obtain ⟨r3, s3⟩ := r2.alloc' al
    have hdr : ds.drop i = d :: ds.drop (i + 1) := by
      obtain ⟨hlt', he⟩ := List.getElem?_eq_some_iff.mp hd
      rw [← he]
      exact List.drop_eq_getElem_cons hlt'
    rw [hdr] at hg2
    unfold compGoF at hg2
    cases hg : g d (mask vs em) with
    | none => simp only [hg] at hg2; cases hg2
    | some e4 =>
      simp only [hg] at hg2
      have rb : R (wd X ⟨w.pa, noTab H', G3, 0⟩) G3 (mask vs em) p2 (L2.wipe σm vs) H' := (vm.mono (s2.trans s3)).r (w := w) (w' := ⟨w.pa, noTab H', G3, 0⟩) rfl r3.base.rebase
      refine ⟨⟨w.pa, noTab H', G3, 0⟩, G3, mask vs em, p2, d, rb, hv, e4, hg, fun σ4 bt r4 => ⟨(bt vs hks).trans (wipe_wipe σm vs), ⟨w.pa, noTab H', G3, 0⟩, G3, e4, p2, r4, ?_⟩⟩
      cases ht : t e4 p2 with
      | bad => simp only [ht] at hg2; cases hg2
      | exc x e5 p5 => simp only [ht] at hg2; cases hg2
      | ok k e5 p5 =>
        intro G5 k' H5 s5 r5 hk
        have hk' : k' = k := hk
        subst hk'
        cases k' with
        | false =>
          simp only [ht] at hg2
          obtain ⟨q5, s35⟩ := r3.after r5.base
          exact ⟨G5, ds2, p5, xs2, s2.trans (s3.trans s35), q5, hg2, he2⟩
        | true =>
          simp only [ht] at hg2
          refine ⟨⟨w.pa, noTab H', G3, 0⟩, G5, e5, p5, r5, ?_⟩
          cases hf : f e5 p5 with
          | bad => simp only [hf] at hg2; cases hg2
          | exc x e6 p6 => simp only [hf] at hg2; cases hg2
          | ok d6 e6 p6 =>
            simp only [hf] at hg2
            intro G6 y6 vs6 H6 s6 r6 hn6 hy6
            obtain ⟨q6, s36⟩ := r3.after r6.base
            obtain ⟨c', acc, k1, k2, k3, nab, k7⟩ := q6.push2 (hlast _) hn6 hy6
            rw [hlastσ] at k1
            cases k1
            cases hrest : compGoF g t f (mask vs em) (ds.drop (i + 1)) p6 with
            | none => rw [hrest] at hg2; cases hg2
            | some q =>
              obtain ⟨q1, q2⟩ := q
              rw [hrest] at hg2
              cases hg2
              have hle2 : ds2.length + (q1.length + 1) = ds0.length + xs.length := by
                have := congrArg List.length he2
                simpa using this
              refine ⟨acc, by rw [upd_ne nab]; exact k2, by rw [k3]; exact small.lt (by unfold small; omega), G6, ds2 ++ [d6], p6, q1, s2.trans (s3.trans s36), ?_, hrest, by rw [List.append_assoc]; exact he2⟩
              have e2 : (e1 ++ [some (Sl.own2 ds2)]).set e1.length (some (.own2 (ds2 ++ [d6]))) = e1 ++ [some (.own2 (ds2 ++ [d6]))] := by simp
              rw [e2] at k7
              exact k7
  · have e : i = ds.length := by omega
    subst e
    rw [List.drop_length] at hg2
    have : xs2 = [] ∧ p2 = p' := by
      have h : some (([] : List (List D)), p2) = some (xs2, p') := hg2
      cases h
      exact ⟨rfl, rfl⟩
    obtain ⟨rfl, rfl⟩ := this
    rw [List.append_nil] at he2
    subst he2
    exact .inl ⟨wk.stops H hG, hQ G2 H s2 r2⟩
theorem compGo_len {g : GM} {t : TM} {f : EM} {eb : Ev} : ∀ {ds : List D} {p p' : Pen} {xs : List D}, compGo g t f eb ds p = some (xs, p') → xs.length ≤ ds.length
  | [], _, _, _, h => by cases h; simp
  | x :: r, p, p', xs, h => by
    unfold compGo at h
    cases hg : g x eb with
    | none => simp only [hg] at h; cases h
    | some e1 =>
      simp only [hg] at h
      cases ht : t e1 p with
      | bad => simp only [ht] at h; cases h
      | exc _ _ _ => simp only [ht] at h; cases h
      | ok k e2 p2 =>
        cases k with
        | false => simp only [ht] at h; exact Nat.le_succ_of_le (compGo_len h)
        | true =>
          simp only [ht] at h
          cases hf : f e2 p2 with
          | bad => simp only [hf] at h; cases h
          | exc _ _ _ => simp only [hf] at h; cases h
          | ok d e3 p3 =>
            simp only [hf] at h
            cases hr : compGo g t f eb r p3 with
            | none => rw [hr] at h; cases h
            | some q =>
              obtain ⟨q1, q2⟩ := q
              rw [hr] at h
              cases h
              exact Nat.succ_le_succ (compGo_len hr)
theorem R.split {W : Wd} {G H : Hp} {e : Ev} {p : Pen} {σ : L2.St} {c : Addr} {xs : List D} (r : R W G (e ++ [some (.own xs)]) p (σ ++ [some (.ref c)]) H) :
    ∃ vs, H c = some (.lst vs) ∧ RepsW W G vs xs ∧ R W G e p σ (fun b => if b = c then none else H b) := by
  have hl := r.len
  rw [List.length_append, List.length_append, List.length_singleton, List.length_singleton] at hl
  obtain ⟨gps, h1, h2, h3⟩ := r.sls
  obtain ⟨fps, fp, rfl, h4, h5⟩ := h1.last (by omega)
  cases h5 with
  | lis ha hr =>
    rename_i vs
    rw [List.flatten_append, List.nodup_append] at h2
    have ef : ([[c]] : List (List Addr)).flatten = [c] := by simp
    rw [ef] at h2
    obtain ⟨g1, g2, g3⟩ := h3 c (by rw [List.flatten_append, ef]; simp)
    have nin : c ∉ fps.flatten := fun z => h2.2.2 c z c (by simp) rfl
    refine ⟨vs, ha, hr, Lo.hide ⟨⟨r.base.write g1 g2 g3 (by rw [ha]; exact soft_lst _), fps, h4.mono (Sub.refl G) fun a hm o ho => ?_, h2.1, fun a hm => h3 a (by rw [List.flatten_append]; exact List.mem_append_left _ hm)⟩, g1, g2, g3⟩⟩
    rw [upd_ne (fun z => nin (by rw [← z]; exact hm))]
    exact ho
section
variable {WW : WX}
theorem comp2_w {js ks ks1 vs vs1 : List Nat} {it it1 : AM} {g g1 : GM} {t t1 : TM} {f : EM} (hks : ∀ k ∈ ks, k ∈ vs) (hks1 : ∀ k ∈ ks1, k ∈ vs1) (σ : L2.St) (H : Hp) (Q : VK) (q : tF X WW (fComp2 js it vs g t it1 vs1 g1 t1 f) σ H Q) :
    tLc2 (tI X WW it) (tG X ks g) (tT X WF t) (tI X WF it1) (tG X ks1 g1) (tT X WF t1) (tE X WF f) vs vs1 σ H Q := by
  obtain ⟨w, G, e, p, r, q⟩ := q
  obtain ⟨G0, s0, r0⟩ := r.freeze js
  refine ⟨w, G0, freeze js e, p, r0, ?_⟩
  unfold fComp2 at q
  cases hit : it (freeze js e) p with
  | bad => simp only [hit, Res.bind] at q; exact q
  | exc x e1 p1 => simp only [hit, Res.bind] at q; exact fun G1 c d H1 s1 r1 => q G1 c d H1 (s0.trans s1) r1
  | ok ds e1 p1 =>
    simp only [hit, Res.bind] at q
    intro G1 J H1 s1 r1 wk c hc
    cases hgo : compGo2 g t it1 vs1 g1 t1 f (mask vs e1) ds p1 with
    | none => simp only [hgo] at q; exact q.elim
    | some xp =>
      obtain ⟨xs, p'⟩ := xp
      simp only [hgo] at q
      split at q
      · rename_i hsm
        have hsm' : xs.length ≤ 10000000 := by unfold small at hsm; simpa using hsm
        have vm := r1.vr vs
        have rx := r1.addOwn hc
        obtain ⟨Gd, Y, wk, hgd, hy⟩ := wk
        let Pv : Nat → Hp → Prop := fun i H => ∃ G2 ds2 p2 xs2, Sub G1 G2 ∧ R (wd X w) G2 (e1 ++ [some (.own ds2)]) p2 (σ ++ [some (.ref c)]) H ∧ compGo2 g t it1 vs1 g1 t1 f (mask vs e1) (ds.drop i) p2 = some (xs2, p') ∧ ds2 ++ xs2 = xs
        refine ⟨fun i m H => m = ds.length - i ∧ i ≤ ds.length ∧ Pv i H, ⟨ds.length, by simp, Nat.zero_le _, G1, [], p1, xs, Sub.refl _, rx, hgo, rfl⟩, ?_⟩
        rintro i m H ⟨rfl, hi, G2, ds2, p2, xs2, s2, r2, hg2, he2⟩
        have hG := hgd H (s2.trans r2.sub)
        by_cases hlt : i < ds.length
        · refine .inr ⟨wk.goes i H hlt hG, Pv (i + 1), fun H' p' => ⟨ds.length - (i + 1), by omega, rfl, hlt, p'⟩, fun x H' y => ?_⟩
          obtain ⟨d, hd, hx⟩ := hy i H x H' hlt hG (wk.yields i H x H' hlt hG y)
          obtain ⟨G3, al, hv⟩ := hx G2 s2 r2.sub
          obtain ⟨r3, s3⟩ := r2.alloc' al
          have hdr : ds.drop i = d :: ds.drop (i + 1) := by
            obtain ⟨hlt', he⟩ := List.getElem?_eq_some_iff.mp hd
            rw [← he]
            exact List.drop_eq_getElem_cons hlt'
          rw [hdr] at hg2
          unfold compGo2 at hg2
          cases hg : g d (mask vs e1) with
          | none => simp only [hg] at hg2; cases hg2
          | some e4 =>
            simp only [hg] at hg2
            have rb : R (wd X ⟨w.pa, noTab H', G3, 0⟩) G3 (mask vs e1) p2 (L2.wipe σ vs) H' := (vm.mono (s2.trans s3)).r (w := w) (w' := ⟨w.pa, noTab H', G3, 0⟩) rfl r3.base.rebase
            refine ⟨⟨w.pa, noTab H', G3, 0⟩, G3, mask vs e1, p2, d, rb, hv, e4, hg, fun σ4 bt r4 => ⟨(bt vs hks).trans (wipe_wipe σ vs), ⟨w.pa, noTab H', G3, 0⟩, G3, e4, p2, r4, ?_⟩⟩
            cases ht : t e4 p2 with
            | bad => simp only [ht] at hg2; cases hg2
            | exc x e5 p5 => simp only [ht] at hg2; cases hg2
            | ok k e5 p5 =>
              intro G5 k' H5 s5 r5 hk
              have hk' : k' = k := hk
              subst hk'
              cases k' with
              | false =>
                simp only [ht] at hg2
                obtain ⟨q5, s35⟩ := r3.after r5.base
                exact ⟨G5, ds2, p5, xs2, s2.trans (s3.trans s35), q5, hg2, he2⟩
              | true =>
                simp only [ht] at hg2
                refine ⟨⟨w.pa, noTab H', G3, 0⟩, G5, e5, p5, r5, ?_⟩
                cases hi1 : it1 e5 p5 with
                | bad => simp only [hi1] at hg2; cases hg2
                | exc x e6 p6 => simp only [hi1] at hg2; cases hg2
                | ok ds1 e6 p6 =>
                  simp only [hi1] at hg2
                  intro G6 J1 H6 s6 r6 wk1
                  obtain ⟨q6, s36⟩ := r3.after r6.base
                  cases hin : compGo g1 t1 f (mask vs1 e6) ds1 p6 with
                  | none => simp only [hin] at hg2; cases hg2
                  | some yp =>
                    obtain ⟨ys, p7⟩ := yp
                    simp only [hin] at hg2
                    cases hrest : compGo2 g t it1 vs1 g1 t1 f (mask vs e1) (ds.drop (i + 1)) p7 with
                    | none => rw [hrest] at hg2; cases hg2
                    | some zp =>
                      obtain ⟨zs, p8⟩ := zp
                      rw [hrest] at hg2
                      cases hg2
                      have hb : ds2.length + ys.length ≤ 10000000 := by
                        have := congrArg List.length he2
                        simp only [List.length_append] at this
                        omega
                      exact coreG (w := w) (G1 := G6) (e1 := e1) (em := e6) (p1 := p6) (σ := σ) (σm := σ4) (ds0 := ds2) (xs := ys) (p' := p7) hks1 wk1 hb q6 ((r6.vr vs1).to (w := ⟨w.pa, noTab H', G3, 0⟩) (w' := w) rfl) hin fun G7 H7 s7 r7 => ⟨G7, ds2 ++ ys, p7, zs, s2.trans (s3.trans (s36.trans s7)), r7, hrest, by rw [List.append_assoc]; exact he2⟩
        · have e : i = ds.length := by omega
          subst e
          rw [List.drop_length] at hg2
          have : xs2 = [] ∧ p2 = p' := by
            have h : some (([] : List D), p2) = some (xs2, p') := hg2
            cases h
            exact ⟨rfl, rfl⟩
          obtain ⟨rfl, rfl⟩ := this
          rw [List.append_nil] at he2
          subst he2
          obtain ⟨vs2, k1, k2, k3⟩ := r2.split
          have := q G2 c vs2 _ (s0.trans (s1.trans s2)) k3 (if_pos rfl) k2
          rw [hide_upd k1] at this
          exact .inl ⟨wk.stops H hG, this⟩
      · exact q.elim
theorem df_comp2 {elt tg iter tg1 iter1 : Expr} {ifs ifs1 : List Expr} {scope : Scope} {own : List (Str × Nat)} {vs1 : List Nat} {pos : Pos} {js ks ks1 : List Nat} {it it1 : AM} {g g1 : GM} {t t1 : TM} {f : EM} (hc : X.calm = true) (hN : X.N.Nodup) (hi : DI X WW tg iter it) (ok : BlkOk X.N X.env.scope scope own) (hv : ∀ i ∈ vs1, i ∈ own.map (·.2))
    (hg : ∀ (s : Shared) (H : Hp) (C : Addr) (cl : List (Str × Addr)) (fp : List Addr), DG (X.blk s H scope (compEnvC scope cl C X.env) fp) tg ks g) (ht : ∀ (s : Shared) (H : Hp) (C : Addr) (cl : List (Str × Addr)) (fp : List Addr), DTs (X.blk s H scope (compEnvC scope cl C X.env) fp) WF ifs t)
    (hi1 : ∀ (s : Shared) (H : Hp) (C : Addr) (cl : List (Str × Addr)) (fp : List Addr), DI (X.blk s H scope (compEnvC scope cl C X.env) fp) WF tg1 iter1 it1)
    (hg1 : ∀ (s : Shared) (H : Hp) (C : Addr) (cl : List (Str × Addr)) (fp : List Addr), DG (X.blk s H scope (compEnvC scope cl C X.env) fp) tg1 ks1 g1) (ht1 : ∀ (s : Shared) (H : Hp) (C : Addr) (cl : List (Str × Addr)) (fp : List Addr), DTs (X.blk s H scope (compEnvC scope cl C X.env) fp) WF ifs1 t1)
    (he : ∀ (s : Shared) (H : Hp) (C : Addr) (cl : List (Str × Addr)) (fp : List Addr), DE (X.blk s H scope (compEnvC scope cl C X.env) fp) WF elt f) (hks : ∀ k ∈ ks, k ∈ own.map (·.2) := by decide) (hks1 : ∀ k ∈ ks1, k ∈ vs1 := by decide) (hs : ∀ x, foldedSetIterable iter X.env x = pure x := by intro _; rfl) (hs1 : ∀ env x, foldedSetIterable iter1 env x = pure x := by intro _ _; rfl) :
    DF X WW (.ListComp elt [⟨tg, iter, ifs, 0⟩, ⟨tg1, iter1, ifs1, 0⟩] scope pos) (fComp2 js it (own.map (·.2)) g t it1 vs1 g1 t1 f) := PEw (pe_lc2 hc hN hi ok hv hg ht hi1 hg1 ht1 he hs hs1) (comp2_w hks hks1)
theorem ds_setComp2 {i : Nat} {y : Str} {py : Pos} {elt tg iter tg1 iter1 : Expr} {ifs ifs1 : List Expr} {scope : Scope} {own : List (Str × Nat)} {vs1 : List Nat} {pos spos : Pos} {js ks ks1 : List Nat} {it it1 : AM} {g g1 : GM} {t t1 : TM} {f : EM} (hc : X.calm = true) (hN : X.N.Nodup) (hyl : X.env.scope.names.lookup y = some .local) (hsw : swapsWith (.ListComp elt [⟨tg, iter, ifs, 0⟩, ⟨tg1, iter1, ifs1, 0⟩] scope pos) (some (.Name y py)) spos.line X.env = pure true)
    (hi : DI X WW tg iter it) (ok : BlkOk X.N X.env.scope scope own) (hv : ∀ i ∈ vs1, i ∈ own.map (·.2))
    (hg : ∀ (s : Shared) (H : Hp) (C : Addr) (cl : List (Str × Addr)) (fp : List Addr), DG (X.blk s H scope (compEnvC scope cl C X.env) fp) tg ks g) (ht : ∀ (s : Shared) (H : Hp) (C : Addr) (cl : List (Str × Addr)) (fp : List Addr), DTs (X.blk s H scope (compEnvC scope cl C X.env) fp) WF ifs t)
    (hi1 : ∀ (s : Shared) (H : Hp) (C : Addr) (cl : List (Str × Addr)) (fp : List Addr), DI (X.blk s H scope (compEnvC scope cl C X.env) fp) WF tg1 iter1 it1)
    (hg1 : ∀ (s : Shared) (H : Hp) (C : Addr) (cl : List (Str × Addr)) (fp : List Addr), DG (X.blk s H scope (compEnvC scope cl C X.env) fp) tg1 ks1 g1) (ht1 : ∀ (s : Shared) (H : Hp) (C : Addr) (cl : List (Str × Addr)) (fp : List Addr), DTs (X.blk s H scope (compEnvC scope cl C X.env) fp) WF ifs1 t1)
    (he : ∀ (s : Shared) (H : Hp) (C : Addr) (cl : List (Str × Addr)) (fp : List Addr), DE (X.blk s H scope (compEnvC scope cl C X.env) fp) WF elt f) (hy : X.N[i]? = some y := by rfl) (hks : ∀ k ∈ ks, k ∈ own.map (·.2) := by decide) (hks1 : ∀ k ∈ ks1, k ∈ vs1 := by decide) (hs : ∀ x, foldedSetIterable iter X.env x = pure x := by intro _; rfl) (hs1 : ∀ env x, foldedSetIterable iter1 env x = pure x := by intro _ _; rfl) :
    DS X WW (.Assign [.Name y py] (.ListComp elt [⟨tg, iter, ifs, 0⟩, ⟨tg1, iter1, ifs1, 0⟩] scope pos) spos) (sOwn (fComp2 js it (own.map (·.2)) g t it1 vs1 g1 t1 f) i) := PSw (ps_setLc2 hc hN hy hyl hsw hi ok hv hg ht hi1 hg1 ht1 he hs hs1) fun D σ H q => comp2_w hks hks1 σ H _ (own_w D σ H q)
theorem compF_w {js ks vs : List Nat} {it : AM} {g : GM} {t : TM} {f : AM} {i : Nat} (hks : ∀ k ∈ ks, k ∈ vs) (D : Ends) (σ : L2.St) (H : Hp) (q : tS X WW (sCompF js it vs g t f i) D σ H) : tAsg (tLc (tI X WW it) (tG X ks g) (tT X WF t) (tF X WF f) vs) (gName i) D σ H := by
  obtain ⟨w, G, e, p, r, q⟩ := q
  obtain ⟨G0, s0, r0⟩ := r.freeze js
  refine ⟨w, G0, freeze js e, p, r0, ?_⟩
  have q : PostS (wd X w) WW D G (sCompF js it vs g t f i e p) := q
  unfold sCompF at q
  cases hit : it (freeze js e) p with
  | bad => simp only [hit, toS] at q; exact q
  | exc x e1 p1 => simp only [hit, toS] at q; exact fun G1 c d H1 s1 r1 => q G1 c d σ H1 (s0.trans s1) r1
  | ok ds e1 p1 =>
    simp only [hit, toS] at q
    intro G1 J H1 s1 r1 wk c hc
    cases hgo : compGoF g t f (mask vs e1) ds p1 with
    | none => simp only [hgo] at q; exact q.elim
    | some xp =>
      obtain ⟨rows, p'⟩ := xp
      simp only [hgo] at q
      split at q
      · rename_i hsm
        refine coreF (w := w) (G1 := G1) (e1 := e1) (em := e1) (p1 := p1) (σ := σ) (σm := σ) (ds0 := []) (xs := rows) (p' := p') hks wk (by unfold small at hsm; simpa using hsm) (r1.addOwn2 hc) (r1.vr vs) hgo fun G2 H2 s2 r2 => ?_
        exact q G2 _ H2 (s0.trans (s1.trans s2)) (r2.move i)
      · exact q.elim
theorem ds_setCompF {i : Nat} {y : Str} {py : Pos} {elt tg iter : Expr} {ifs : List Expr} {scope : Scope} {own : List (Str × Nat)} {pos spos : Pos} {js ks : List Nat} {it : AM} {g : GM} {t : TM} {f : AM} (hc : X.calm = true) (hN : X.N.Nodup) (hyl : X.env.scope.names.lookup y = some .local) (hsw : swapsWith (.ListComp elt [⟨tg, iter, ifs, 0⟩] scope pos) (some (.Name y py)) spos.line X.env = pure true)
    (hi : DI X WW tg iter it) (ok : BlkOk X.N X.env.scope scope own)
    (hg : ∀ (s : Shared) (H : Hp) (C : Addr) (cl : List (Str × Addr)) (fp : List Addr), DG (X.blk s H scope (compEnvC scope cl C X.env) fp) tg ks g) (ht : ∀ (s : Shared) (H : Hp) (C : Addr) (cl : List (Str × Addr)) (fp : List Addr), DTs (X.blk s H scope (compEnvC scope cl C X.env) fp) WF ifs t)
    (he : ∀ (s : Shared) (H : Hp) (C : Addr) (cl : List (Str × Addr)) (fp : List Addr), DF (X.blk s H scope (compEnvC scope cl C X.env) fp) WF elt f) (hy : X.N[i]? = some y := by rfl) (hks : ∀ k ∈ ks, k ∈ own.map (·.2) := by decide) (hs : ∀ x, foldedSetIterable iter X.env x = pure x := by intro _; rfl) :
    DS X WW (.Assign [.Name y py] (.ListComp elt [⟨tg, iter, ifs, 0⟩] scope pos) spos) (sCompF js it (own.map (·.2)) g t f i) := PSw (ps_setLc hc hN hy hyl hsw hi ok hg ht he hs) fun D σ H q => compF_w hks D σ H q
def eVar2 (i : Nat) : EM := fun e p => match e[i]? with
  | some (some (.own2 rows)) => .ok (.lst (rows.map D.lst)) (e.set i (some (.v (.lst (rows.map D.lst))))) p
  | _ => eVar i e p
theorem de_var2 {x : Str} {pos : Pos} (i : Nat) (hN : X.N[i]? = some x := by rfl) (hv : Vis X.env.scope x := by first | exact Or.inl rfl | exact Or.inr (Or.inl rfl) | exact Or.inr (Or.inr rfl)) (hd : (x == ("__debug__" : Str)) = false := by decide)
    (hcd : (x == ("__classdict__" : Str)) = false := by decide) : DE X WW (.Name x pos) (eVar2 i) := ⟨fun pins s σ H Q I ⟨w, G, e, p, r, q⟩ => by
  unfold eVar2 at q
  split at q
  · rename_i rows h
    obtain ⟨G', v, s1, h1, h2, r1⟩ := r.still2 h
    exact (pe_var hN hv hd hcd).run pins s σ H Q I ⟨v, h1, q G' v H s1 r1 h2⟩
  · exact (de_var (WW := WW) i hN hv hd hcd).run pins s σ H Q I ⟨w, G, e, p, r, q⟩⟩
end
end
end Pd

namespace Pd
open PySem PySem.Spec L2 PyProof.Rows RZ
section
variable {X : Cx} {WW : WX} {a b : Expr} {pos : Pos} {fa fb fv : EM} {fs : AM}
def iAny (f : EM) : AM := fun e p => (f e p).bind fun d e p => match d with
  | .lst xs => .ok xs e p
  | .tup xs => .ok xs e p
  | .str z => .ok (z.cps.toList.map fun c => .str ⟨#[c]⟩) e p
  | _ => .bad
theorem walkD_str {W : Wd} {G : Hp} {z : Str} : WalkD W G (Its z) (z.cps.toList.map fun c => .str ⟨#[c]⟩) := by
  have hl : (z.cps.toList.map fun c => D.str ⟨#[c]⟩).length = z.cps.size := by simp
  refine ⟨fun _ => True, _, by rw [hl]; exact walk_str, fun _ _ => trivial, fun i H x H' hi hg y => ?_⟩
  obtain ⟨e, c, hc, rfl⟩ := y
  subst e
  refine ⟨.str ⟨#[c]⟩, ?_, fun G1 s1 _ => ⟨G1, al0, .str _⟩⟩
  simp [hc]
theorem di_any {tg : Expr} (h : DE X WW a fa) : DI X WW tg a (iAny fa) := ⟨fun pins s σ H R I q => by
  obtain ⟨w, G, e, p, r, q⟩ := id q
  unfold iAny at q
  cases hf : fa e p with
  | bad => simp only [hf, Res.bind] at q
  | exc x e1 p1 =>
    refine (di_seq h).run pins s σ H R I ⟨w, G, e, p, r, ?_⟩
    unfold iSeq
    simp only [hf, Res.bind] at q ⊢
    exact q
  | ok d e1 p1 =>
    simp only [hf, Res.bind] at q
    cases d with
    | str z =>
      refine (pi_str h).run pins s σ H R I ⟨w, G, e, p, r, ?_⟩
      rw [hf]
      intro G1 v H1 s1 r1 hv
      cases hv
      exact ⟨z, rfl, q G1 _ H1 s1 r1 walkD_str⟩
    | lst xs =>
      refine (di_seq h).run pins s σ H R I ⟨w, G, e, p, r, ?_⟩
      unfold iSeq
      simp only [hf, Res.bind]
      exact q
    | tup xs =>
      refine (di_seq h).run pins s σ H R I ⟨w, G, e, p, r, ?_⟩
      unfold iSeq
      simp only [hf, Res.bind]
      exact q
    | _ => exact q.elim⟩
def KTup (K : PySem.W.Frag) (mg : Str → Option Value) (x : Str) (ds : List D) : Prop := ∃ a vs, mg x = some (.ref a) ∧ (∀ H, SqT K H a vs) ∧ ∀ mg pa G, Reps K mg pa G vs ds
def inK (neg : Bool) (ds : List D) (d : D) : Option D := if d.flat = true ∧ ds.all D.flat = true then some (.bl (if neg then !ds.any (fun z => D.beq z d) else ds.any fun z => D.beq z d)) else none
theorem inK_w {neg : Bool} {x : Str} {xp : Pos} {ds : List D} {b : Addr} {us : List V} (h2 : ∀ H, SqT X.K H b us) (h3 : ∀ mg pa G, Reps X.K mg pa G us ds) (σ : L2.St) (H : Hp) (Q : VK) (q : tE X WW (eUn (inK neg ds) fa) σ H Q) : tOp (rIn4 X.K neg) (tE X WW fa) (tC (.ref b)) σ H Q :=
  (ee_w q).imp fun v H1 ⟨w, G, d, e, p, r, hv, q1⟩ => by
    unfold inK at q1
    split at q1
    · rename_i h
      exact in_tupK (w := w) (G := G) hv (h2 H1) (h3 _ _ _) h.1 h.2 (q1 G _ H1 (Sub.refl _) r (.bl _))
    · exact q1.elim
theorem de_inK {x : Str} {xp : Pos} {ds : List D} (hu : X.A.units + 65 < cLine) (hg : Gl X x) (h : KTup X.K X.mg x ds) (ha : DE X WW a fa) (hd : (x == ("__debug__" : Str)) = false := by decide) (hm : behindInMarks .In (.Name x xp) = false := by rfl) : DE X WW (.Compare a [.In] [.Name x xp] pos) (eUn (inK false ds) fa) := by
  obtain ⟨b, us, h1, h2, h3⟩ := h
  exact PEw (pe_cmpR (op_in4 hu) ha (pe_glob hg h1 (v := .ref b) rfl hd) hm) fun σ H Q q => inK_w (neg := false) (x := x) (xp := xp) h2 h3 σ H Q q
theorem de_notInK {x : Str} {xp : Pos} {ds : List D} (hu : X.A.units + 65 < cLine) (hg : Gl X x) (h : KTup X.K X.mg x ds) (ha : DE X WW a fa) (hd : (x == ("__debug__" : Str)) = false := by decide) (hm : behindInMarks .NotIn (.Name x xp) = false := by rfl) : DE X WW (.Compare a [.NotIn] [.Name x xp] pos) (eUn (inK true ds) fa) := by
  obtain ⟨b, us, h1, h2, h3⟩ := h
  exact PEw (pe_cmpR (op_notIn4 hu) ha (pe_glob hg h1 (v := .ref b) rfl hd) hm) fun σ H Q q => inK_w (neg := true) (x := x) (xp := xp) h2 h3 σ H Q q
theorem dt_inK {x : Str} {xp : Pos} {ds : List D} (hu : X.A.units + 65 < cLine) (hg : Gl X x) (h : KTup X.K X.mg x ds) (ha : DE X WW a fa) (hd : (x == ("__debug__" : Str)) = false := by decide) (hm : behindInMarks .In (.Name x xp) = false := by rfl) : DT X WW (.Compare a [.In] [.Name x xp] pos) (tmB (eUn (inK false ds) fa)) := by
  obtain ⟨b, us, h1, h2, h3⟩ := h
  exact PTw (pt_cmpR (op_in4 hu) ha (pe_glob hg h1 (v := .ref b) rfl hd) hm) (tb_w fun σ H Q q => inK_w (neg := false) (x := x) (xp := xp) h2 h3 σ H Q q)
theorem dt_notInK {x : Str} {xp : Pos} {ds : List D} (hu : X.A.units + 65 < cLine) (hg : Gl X x) (h : KTup X.K X.mg x ds) (ha : DE X WW a fa) (hd : (x == ("__debug__" : Str)) = false := by decide) (hm : behindInMarks .NotIn (.Name x xp) = false := by rfl) : DT X WW (.Compare a [.NotIn] [.Name x xp] pos) (tmB (eUn (inK true ds) fa)) := by
  obtain ⟨b, us, h1, h2, h3⟩ := h
  exact PTw (pt_cmpR (op_notIn4 hu) ha (pe_glob hg h1 (v := .ref b) rfl hd) hm) (tb_w fun σ H Q q => inK_w (neg := true) (x := x) (xp := xp) h2 h3 σ H Q q)
def sPar (fa fb : EM) (i j : Nat) : SM := fun e p => toS (fa e p) fun x e p => toS (fb e p) fun y e p => .nx ((e.set i (some (.v x))).set j (some (.v y))) p
theorem ds_par {i j : Nat} {x y : Str} {px py pt pt2 : Pos} {kt k2 : Nat} (hc : X.calm = true) (hN : X.N.Nodup) (ha : DE X WW a fa) (hb : DE X WW b fb) (hij : i ≠ j) (hi : X.N[i]? = some x := by rfl) (hj : X.N[j]? = some y := by rfl)
    (hx : X.env.scope.names.lookup x = some .local := by rfl) (hy : X.env.scope.names.lookup y = some .local := by rfl)
    (hs1 : starEach [a, b] X.env = (false, eval a X.env) :: starEach [b] X.env := by rfl) (hs2 : starEach [b] X.env = (false, eval b X.env) :: starEach [] X.env := by rfl)
    (hw : swappedStores [.Tuple [.Name x px, .Name y py] kt pt] (.Tuple [a, b] k2 pt2) X.env = pure (some [x, y]) := by rfl)
    (hs : swapsWithSole [.Tuple [.Name x px, .Name y py] kt pt] (.Tuple [a, b] k2 pt2) pos.line X.env = pure false := by rfl) :
    DS X WW (.Assign [.Tuple [.Name x px, .Name y py] kt pt] (.Tuple [a, b] k2 pt2) pos) (sPar fa fb i j) := PSw (ps_par hc hN hi hj hij hx hy (pa_cons ha (pa_cons hb pa_nil hs2) hs1) hw hs) fun D σ H q =>
  (es_w q).imp fun v H1 ⟨w, G, d, e, p, r, hv, q1⟩ => by
    have q2 := es_w (fa := fb) ⟨w, G, e, p, r, q1⟩
    -- the first value is still there behind the second
    obtain ⟨w2, G2, e2, p2, r2, q3⟩ := id q2
    clear q2
    have q1' : PostS (wd X w) WW D G (toS (fb e p) fun y e p => .nx ((e.set i (some (.v d))).set j (some (.v y))) p) := q1
    refine ⟨w, G, e, p, r, ?_⟩
    cases hf : fb e p with
    | bad => rw [hf] at q1'; exact q1'
    | exc x e3 p3 => rw [hf] at q1'; exact fun G1 c d H1 s1 r1 => q1' G1 c d σ H1 s1 r1
    | ok d2 e3 p3 =>
      rw [hf] at q1'
      intro G3 v2 H3 s3 r3 hv2
      exact ⟨v, v2, rfl, q1' G3 _ H3 s3 ((r3.store i (hv.mono s3)).store j hv2)⟩
def IxE (X : Cx) (b : Expr) (f : Ev → Option Int) : Prop := ∃ tb : TE, PE X b tb ∧ ∀ (w : Wl) (G : Hp) (e : Ev) (p : Pen) (σ : L2.St) (H : Hp) (m : Int) (Q : VK), R (wd X w) G e p σ H → f e = some m → Q (.int m) H → tb σ H Q
theorem ixe_c {m : Int} {j : Nat} {pos : Pos} : IxE X (.Constant (.int m) j pos) (fun _ => some m) := ⟨_, pe_int, fun w G e p σ H k Q r h q => by cases h; exact q⟩
theorem ixe_v {x : Str} {pos : Pos} (i : Nat) (hN : X.N[i]? = some x := by rfl) (hv : Vis X.env.scope x := by first | exact Or.inl rfl | exact Or.inr (Or.inl rfl) | exact Or.inr (Or.inr rfl)) (hd : (x == ("__debug__" : Str)) = false := by decide)
    (hcd : (x == ("__classdict__" : Str)) = false := by decide) : IxE X (.Name x pos) (fun e => match e[i]? with | some (some (.v (.int m))) => some m | _ => none) := ⟨_, pe_var hN hv hd hcd, fun w G e p σ H k Q r h q => by
  dsimp only at h
  split at h
  · rename_i m hm
    cases h
    obtain ⟨v, h1, h2⟩ := r.getV hm
    cases h2
    exact ⟨_, h1, q⟩
  · cases h⟩
def sPut2 (j : Nat) (fv fa : EM) (fb : Ev → Option Int) : SM := fun e p => toS (fv e p) fun d e p => match e[j]? with
  | some (some (.own2 _)) => toS (fa e p) fun ia e p => (match e[j]?, ia, fb e with
    | some (some (.own2 rows)), .int m, some n => (match (L2.ixN rows.length m).bind fun k => (rows[k]?).bind fun xs => (L2.ixN xs.length n).map fun l => (k, xs, l) with
      | some (k, xs, l) => .nx (e.set j (some (.own2 (rows.set k (xs.set l d))))) p
      | none => .bad)
    | _, _, _ => .bad)
  | _ => .bad
theorem atI_ref {vs : List V} {m : Int} {k : Nat} {v : V} (h1 : L2.ixN vs.length m = some k) (h2 : vs[k]? = some v) : L2.atI vs m = some v := by
  unfold L2.atI
  rw [h1]
  exact h2
theorem ds_put2 {j : Nat} {x : Str} {xp p1 p2 : Pos} {fb : Ev → Option Int} {v : Expr} (hv : DE X WW v fv) (ha : DE X WW a fa) (hb : IxE X b fb) (hN : X.N[j]? = some x := by rfl) (hvis : Vis X.env.scope x := by first | exact Or.inl rfl | exact Or.inr (Or.inl rfl) | exact Or.inr (Or.inr rfl)) (hd : (x == ("__debug__" : Str)) = false := by decide)
    (hcd : (x == ("__classdict__" : Str)) = false := by decide) (hpl : PlainIx a := by intro _ _; rfl)
    (hasg : ∀ v, assign (.Subscript (.Subscript (.Name x xp) a p1) b p2) X.env v = (do
      let ov ← holding [v] (eval (.Subscript (.Name x xp) a p1) X.env)
      let iv ← holding [v, ov] (eval b X.env)
      standAt p2
      holding [v, ov, iv] (setItem ov iv v)
      release [v, ov, iv] []) := by intro _; rfl)
    (hs : swapsWithSole [.Subscript (.Subscript (.Name x xp) a p1) b p2] v pos.line X.env = pure false := by rfl) (hw : swappedStores [.Subscript (.Subscript (.Name x xp) a p1) b p2] v X.env = pure none := by rfl)
    (h1 : (assignEach [.Subscript (.Subscript (.Name x xp) a p1) b p2] X.env).map (·.2) = [assign (.Subscript (.Subscript (.Name x xp) a p1) b p2) X.env] := by rfl) :
    DS X WW (.Assign [.Subscript (.Subscript (.Name x xp) a p1) b p2] v pos) (sPut2 j fv fa fb) := by
  obtain ⟨tb, hpb, hB⟩ := hb
  refine PSw (ps_asg hv (pg_sub (pe_ix ix_seq (pe_var hN hvis hd hcd) ha hpl) hpb set_list hasg) hs hw h1) fun D σ H q => (es_w q).imp fun v H1 ⟨w, G, d, e, p, r, hv, q1⟩ => ?_
  split at q1
  · rename_i rows0 hr0
    obtain ⟨a0, bs0, k1, _⟩ := r.getOwn2 hr0
    refine ⟨.ref a0, k1, w, G, e, p, r, ?_⟩
    cases hf : fa e p with
    | bad => rw [hf] at q1; exact q1.elim
    | exc x e2 p2 => rw [hf] at q1; exact fun G1 c dd H2 s2 r2 hx => q1 G1 c dd σ H2 s2 r2 hx
    | ok ia e2 p2 =>
      rw [hf] at q1
      intro G2 via H2 s2 r2 hvia
      simp only [toS] at q1
      split at q1
      · rename_i rows m n hrows hn
        cases hz : (L2.ixN rows.length m).bind fun k => (rows[k]?).bind fun xs => (L2.ixN xs.length n).map fun l => (k, xs, l) with
        | none => rw [hz] at q1; exact q1.elim
        | some kxl =>
          obtain ⟨k, xs, l⟩ := kxl
          rw [hz] at q1
          cases hk : L2.ixN rows.length m with
          | none => rw [hk] at hz; cases hz
          | some k' =>
            rw [hk] at hz
            simp only [Option.bind_some] at hz
            cases hx : rows[k']? with
            | none => rw [hx] at hz; cases hz
            | some xs' =>
              rw [hx] at hz
              simp only [Option.bind_some] at hz
              cases hl : L2.ixN xs'.length n with
              | none => rw [hl] at hz; cases hz
              | some l' =>
                rw [hl] at hz
                cases hz
                obtain ⟨a1, acc, b1, us, g1, g2, g3, g4, g5, g6, g7⟩ := r2.put2 hrows hx
                rw [k1] at g1
                cases g1
                cases hvia
                refine .inl ⟨a0, acc, m, .ref b1, rfl, rfl, SqL.of g2, atI_ref (by rw [g3]; exact hk) g4, ?_⟩
                refine hB w G2 e2 p2 σ H2 n _ r2 hn ?_
                refine ⟨b1, us, n, _, rfl, rfl, g5, by rw [g6.length]; exact hl, ?_⟩
                exact q1 G2 σ _ s2 (g7 _ _ (g6.set _ (hv.mono s2)))
      · exact q1.elim
  · exact q1.elim
def sPut (j : Nat) (fv fa : EM) : SM := fun e p => toS (fv e p) fun d e p => match e[j]? with
  | some (some (.own _)) => toS (fa e p) fun ia e p => (match e[j]?, ia with
    | some (some (.own xs)), .int m => (match L2.ixN xs.length m with
      | some k => .nx (e.set j (some (.own (xs.set k d)))) p
      | none => .bad)
    | _, _ => .bad)
  | _ => .bad
theorem ds_put {j : Nat} {x : Str} {xp p2 : Pos} {v : Expr} (hv : DE X WW v fv) (ha : DE X WW a fa) (hN : X.N[j]? = some x := by rfl) (hvis : Vis X.env.scope x := by first | exact Or.inl rfl | exact Or.inr (Or.inl rfl) | exact Or.inr (Or.inr rfl)) (hd : (x == ("__debug__" : Str)) = false := by decide)
    (hcd : (x == ("__classdict__" : Str)) = false := by decide)
    (hasg : ∀ v, assign (.Subscript (.Name x xp) a p2) X.env v = (do
      let ov ← holding [v] (eval (.Name x xp) X.env)
      let iv ← holding [v, ov] (eval a X.env)
      standAt p2
      holding [v, ov, iv] (setItem ov iv v)
      release [v, ov, iv] []) := by intro _; rfl)
    (hs : swapsWithSole [.Subscript (.Name x xp) a p2] v pos.line X.env = pure false := by rfl) (hw : swappedStores [.Subscript (.Name x xp) a p2] v X.env = pure none := by rfl)
    (h1 : (assignEach [.Subscript (.Name x xp) a p2] X.env).map (·.2) = [assign (.Subscript (.Name x xp) a p2) X.env] := by rfl) :
    DS X WW (.Assign [.Subscript (.Name x xp) a p2] v pos) (sPut j fv fa) := by
  refine PSw (ps_asg hv (pg_sub (pe_var hN hvis hd hcd) ha set_list hasg) hs hw h1) fun D σ H q => (es_w q).imp fun v H1 ⟨w, G, d, e, p, r, hv, q1⟩ => ?_
  split at q1
  · rename_i xs0 hx0
    obtain ⟨a0, vs0, k1, _⟩ := r.getOwn hx0
    refine ⟨.ref a0, k1, w, G, e, p, r, ?_⟩
    cases hf : fa e p with
    | bad => rw [hf] at q1; exact q1.elim
    | exc x e2 p2 => rw [hf] at q1; exact fun G1 c dd H2 s2 r2 hx => q1 G1 c dd σ H2 s2 r2 hx
    | ok ia e2 p2 =>
      rw [hf] at q1
      intro G2 via H2 s2 r2 hvia
      simp only [toS] at q1
      split at q1
      · rename_i xs m hx
        cases hk : L2.ixN xs.length m with
        | none => rw [hk] at q1; exact q1.elim
        | some k =>
          rw [hk] at q1
          obtain ⟨a1, vs, g1, g2, g3, _, _, _, g7, _⟩ := r2.getOwn hx
          rw [k1] at g1
          cases g1
          cases hvia
          refine ⟨a0, vs, m, k, rfl, rfl, g2, by rw [g3.length]; exact hk, ?_⟩
          exact q1 G2 σ _ s2 (g7 _ _ (g3.set k (hv.mono s2)))
      · exact q1.elim
  · exact q1.elim
end
def scal : D → V
  | .bl b => .bl b
  | .int i => .int i
  | .str x => .str x
  | _ => .non
def isSc : D → Bool
  | .non => true
  | .bl _ => true
  | .int _ => true
  | .str _ => true
  | _ => false
theorem reps_scal {K : PySem.W.Frag} {mg : Str → Option Value} {pa : Addr} {G : Hp} : ∀ {ds : List D}, ds.all isSc = true → Reps K mg pa G (ds.map scal) ds
  | [], _ => .nil
  | d :: ds, h => by
    rw [List.all_cons, Bool.and_eq_true] at h
    refine .cons ?_ (reps_scal h.2)
    cases d <;> first | (simp [isSc] at h; done) | constructor
def DefAt (K : PySem.W.Frag) (mg : Str → Option Value) (x : Str) (st : Stmt) (dl : List D) : Prop := ∃ f fd, FunD K x x (defArgs st) (defBody st) (defScope st) (dl.map scal) [] f fd ∧ mg x = some (.ref f)
structure Own (P : Program) (w : World) (K : PySem.W.Frag) (mg : Str → Option Value) (base : Heap) (k : Nat) (x : Str) (ps : List Str) (F : Fn) (dl : List D) : Prop where
  sc : dl.all isSc = true
  ex : ∃ f fd, FnOk P w K mg base (L2.CX P w) k f fd ps (spF K mg ps.length F) ∧ mg x = some (.ref f) ∧ PySem.W.keepIn K (.ref f) = true ∧ ∀ j, j ≤ dl.length → ∃ ds, Vals ((dl.drop j).map scal) ds ∧ Binds K fd ps ds
section
variable {X : Cx} {WW : WX} {a : Expr} {es : List Expr} {pos : Pos} {fs : AM}
theorem de_own {k j : Nat} {x : Str} {ps : List Str} {F : Fn} {dl dds : List D} {xp : Pos} (O : Own X.prog X.w X.K X.mg X.base k x ps F dl) (hj : dl.drop j = dds) (hjl : j ≤ dl.length) (hr : Room k X.A) (tk : Takes X WW) (ha : DA X WW (a :: es) fs) (hn : ∀ e p ds e' p', fs e p = .ok ds e' p' → ds.length + dds.length = ps.length)
    (hg : Gl X x := by rfl) (hdb : (x == ("__debug__" : Str)) = false := by decide) (he : starEach (a :: es) X.env = (false, eval a X.env) :: starEach es X.env := by rfl) (hpl : (backTo pos (starEach es X.env)).any (·.1) = false := by rfl) :
    DE X WW (.Call (.Name x xp) (a :: es) [] pos) (eCall F fs dds) := by
  obtain ⟨f, fd, h1, h2, h3, h4⟩ := O.ex
  obtain ⟨ds, v1, b1⟩ := h4 j hjl
  rw [hj] at v1
  have sc : dds.all isSc = true := by
    rw [← hj, List.all_eq_true]
    exact fun d hd => (List.all_eq_true.mp O.sc) d (List.mem_of_mem_drop hd)
  exact de_call h1 hr hg h2 h3 b1 v1 (fun _ _ _ _ => reps_scal sc) tk ha hn hdb he hpl
end
theorem mkF_pure {X : Cx} {N : List Str} {n : Nat} {sm : SM} {vs : List V} {H : Hp} {Q : VK} {E : XK} (h : spF X.K X.mg n (mkF N.length sm) vs H Q E) : tS X (fun cls d _ H => E cls d H) sm { nx := fun _ H' => Q .non H', rt := Q } (L2.start N vs) H := by
  obtain ⟨hn, pa, G, p, ds, hs, hp, hg, ht, hv, hF⟩ := h
  have hl := hv.length
  refine ⟨⟨pa, noTab H, G, 0⟩, G, ds.map (fun d => some (Sl.v d)) ++ List.replicate (N.length - ds.length) none, p, ⟨⟨hs, Sub.refl G, fun a h => .inl h, fun a o h _ _ => noTab_sub H h, hg, fun a ps => noTab_nt H a ps, ht, hp⟩, List.replicate (ds.length + (N.length - ds.length)) [], ?_, ?_, ?_⟩, ?_⟩
  · unfold L2.start
    rw [hl]
    exact sls_start _ hv
  · have : (List.replicate (ds.length + (N.length - ds.length)) ([] : List Addr)).flatten = [] := by simp
    rw [this]
    exact List.nodup_nil
  · intro a ha
    have : (List.replicate (ds.length + (N.length - ds.length)) ([] : List Addr)).flatten = [] := by simp
    rw [this] at ha
    cases ha
  · unfold mkF at hF
    cases hb : sm (ds.map (fun d => some (Sl.v d)) ++ List.replicate (N.length - ds.length) none) p with
    | nx e1 p1 => simp only [hb] at hF; exact fun G' σ H' s r => hF G' .non H' r.base .non
    | rt d e1 p1 => simp only [hb] at hF; exact fun G' v H' s b hv => hF G' v H' b hv
    | bk e1 p1 => simp only [hb] at hF
    | ct e1 p1 => simp only [hb] at hF
    | exc x e1 p1 => simp only [hb] at hF; exact fun G' cls dd σ H' s r hx => hF G' cls dd H' r.base hx
    | bad => simp only [hb] at hF
section
variable {P : Program} {w : World} {K : PySem.W.Frag} {mg : Str → Option Value} {base : Heap}
theorem ok_fnD {x qual : Str} {params : Arguments} {body : List Stmt} {scope : Scope} {dvs : List V} {f : Addr} {fd : FuncData} {N ps : List Str} {k : Nat} {sm : SM} (F : FunD K x qual params body scope dvs [] f fd) (S : FnScope N ps scope)
    (hbody : ∀ (cdv : Value) (A : Around) (outer : List Env) (s : Shared) (H : Hp) (E : XK), Room k (A.deeper (PyProof.Rows.envOfC qual scope s.heap.objs.size f cdv)) →
      DSs (cxOf (L2.CX P w) P w K mg base N qual scope f cdv A outer s H E) (fun cls d _ H => E cls d H) body sm) : FnOk P w K mg base (L2.CX P w) (k + 1) f fd ps (spF K mg ps.length (mkF N.length sm)) := by
  obtain ⟨oc, od, dV, kV, doc, pm, an, cdv, ct, osl, rfl, lk, hcd, _, _⟩ := F.ex
  exact fn_of lk hcd S (fun vs H Q E h => h.1) fun A outer s H vs Q E hr h => ⟨_, hbody cdv A outer s H E hr, mkF_pure (X := cxOf (L2.CX P w) P w K mg base N qual scope f cdv A outer s H E) h⟩
end
end Pd

namespace Pd
open PySem PySem.Spec L2 PyProof.Rows RZ
theorem hu65 {k : Nat} {A : Around} (h : Room k A) : A.units + 65 < cLine := by have := h.un; omega
theorem hu150 {k : Nat} {A : Around} (h : Room k A) : A.units + 150 < cLine := by have := h.un; omega
theorem hu1 {k : Nat} {A : Around} (h : Room k A) : A.units + 1 < cLine := by have := h.un; omega
theorem boot_len : bootBuiltins "len" = some (.builtin "len") := by decide +kernel
theorem boot_tuple : bootBuiltins "tuple" = some (.type "tuple") := by decide +kernel
theorem boot_list : bootBuiltins "list" = some (.type "list") := by decide +kernel
theorem boot_int : bootBuiltins "int" = some (.type "int") := by decide +kernel
theorem boot_bool : bootBuiltins "bool" = some (.type "bool") := by decide +kernel
theorem boot_str : bootBuiltins "str" = some (.type "str") := by decide +kernel
theorem boot_isinstance : bootBuiltins "isinstance" = some (.builtin "isinstance") := by decide +kernel
theorem boot_all : bootBuiltins "all" = some (.builtin "all") := by decide +kernel
theorem boot_any : bootBuiltins "any" = some (.builtin "any") := by decide +kernel
theorem boot_sum : bootBuiltins "sum" = some (.builtin "sum") := by decide +kernel
theorem boot_max : bootBuiltins "max" = some (.builtin "max") := by decide +kernel
theorem boot_min : bootBuiltins "min" = some (.builtin "min") := by decide +kernel
theorem boot_abs : bootBuiltins "abs" = some (.builtin "abs") := by decide +kernel
theorem boot_repr : bootBuiltins "repr" = some (.builtin "repr") := by decide +kernel
section
variable {X : Cx} {WW : WX} {a b : Expr} {pos : Pos} {fa fb : EM}
theorem PRw {R1 R2 : R2} {f : Value → Value → Sem Value} (h1 : OpR X f R1) (h2 : OpR X f R2) : OpR X f (fun x y H Q => R1 x y H Q ∨ R2 x y H Q) := fun pins s σ H x y v u Q I rx ry h => h.elim (h1 pins s σ H x y v u Q I rx ry) (h2 pins s σ H x y v u Q I rx ry)
def mulD2 : D → D → Option D
  | .tup xs, .int k => if xs ≠ [] ∧ 2 ≤ k ∧ k ≤ 1000 ∧ xs.length ≤ 1000 then some (.tup (List.replicate k.toNat xs).flatten) else none
  | x, y => mulD x y
theorem reps_rep {W : Wd} {G : Hp} {vs : List V} {ds : List D} (h : RepsW W G vs ds) : ∀ n : Nat, RepsW W G (List.replicate n vs).flatten (List.replicate n ds).flatten
  | 0 => .nil
  | n + 1 => by
    rw [List.replicate_succ, List.replicate_succ, List.flatten_cons, List.flatten_cons]
    exact h.append (reps_rep h n)
theorem op_mul3 : OpR X (binaryOp .Mult) (fun x y H Q => (rI CMulW (fun i j => .int (i * j)) x y H Q ∨ rRep x y H Q) ∨ rRepT X.K x y H Q) := PRw op_mul2 op_repT
theorem l_mul2 : Lift2 X (fun x y H Q => (rI CMulW (fun i j => .int (i * j)) x y H Q ∨ rRep x y H Q) ∨ rRepT X.K x y H Q) mulD2 := by
  intro w G H x y dx dy dz Q s hpa hx hy hz q
  unfold mulD2 at hz
  split at hz
  · rename_i xs k
    cases hy.int
    split at hz
    · rename_i h
      cases hz
      cases hx with
      | tup ha ra =>
        rename_i a vs
        have l1 := ra.length
        refine .inr ⟨a, k, vs, rfl, rfl, SqT.of (s _ _ ha), fun z => h.1 (by rw [z] at l1; exact List.length_eq_zero_iff.mp l1.symm), h.2.1, h.2.2.1, by rw [l1]; exact h.2.2.2, fun p hp => q _ _ _ (alN hp) (.tup upd_same (reps_rep (W := wd X w) (Reps.mono (Sub.new (s.fresh hp)) ra) _))⟩
    · cases hz
  · exact .inl (l_mul w G H x y dx dy dz Q s hpa hx hy hz q)
def penGet (key : Str) (p : Pen) : Option D :=
  if key = "cells" then some (.lst (p.cells.map D.int)) else if key = "at" then some (.int p.at_) else if key = "digits" then some (.int p.digits) else if key = "count" then some (.int p.count) else if key = "fold" then some (.int p.fold) else none
def ePen (i : Nat) (key : Str) : EM := fun e p => match e[i]? with
  | some (some (.v .pen)) => optR (penGet key p) e p
  | _ => .bad
theorem valV_ne {κ : Type} [DecidableEq κ] {p : κ × V} {r : List (κ × V)} {k : κ} (e : p.1 ≠ k) : valV (p :: r) k = valV r k := by simp [valV, List.find?_cons, e]
theorem de_pen {x key : Str} {xp kp : Pos} {j : Nat} (i : Nat) (hu : X.A.units + 1 < cLine) (hN : X.N[i]? = some x := by rfl) (hv : Vis X.env.scope x := by first | exact Or.inl rfl | exact Or.inr (Or.inl rfl) | exact Or.inr (Or.inr rfl)) (hd : (x == ("__debug__" : Str)) = false := by decide)
    (hcd : (x == ("__classdict__" : Str)) = false := by decide) (hs : NoSl (.Constant (.str key) j kp) := by intro _ _; rfl) : DE X WW (.Subscript (.Name x xp) (.Constant (.str key) j kp) pos) (ePen i key) := by
  refine PEw (pe_dget hu (pe_var hN hv hd hcd) pe_str hs) fun σ H Q ⟨w, G, e, p, r, q⟩ => ?_
  unfold ePen at q
  split at q
  · rename_i hp
    obtain ⟨v, h1, h2⟩ := r.getV hp
    cases h2
    obtain ⟨g1, ca, g2, g3⟩ := r.base.pen
    refine ⟨_, h1, w.pa, ?_⟩
    have dg : ∀ v, valV ([(.inr "cells", .ref ca), (.inr "at", .int p.at_), (.inr "digits", .int p.digits), (.inr "count", .int p.count), (.inr "fold", .int p.fold)] : List (Key × V)) (.inr key) = some v → DGet H w.pa (.str key) (some v) := fun v hv => .inl ⟨_, .inr key, .inl g3, rfl, hv.symm⟩
    unfold penGet at q
    by_cases k1 : key = "cells"
    · subst k1
      simp only [if_true, optR] at q
      exact ⟨.ref ca, rfl, dg _ (valV_pos rfl), q G _ H (Sub.refl G) r (.lst g2 (Reps.ints _))⟩
    · rw [if_neg k1] at q
      have n1 : (Sum.inr ("cells" : Str) : Key) ≠ .inr key := fun z => k1 (Sum.inr.inj z).symm
      by_cases k2 : key = "at"
      · subst k2
        simp only [if_true, optR] at q
        exact ⟨_, rfl, dg _ ((valV_ne n1).trans (valV_pos rfl)), q G _ H (Sub.refl G) r (.int _)⟩
      · rw [if_neg k2] at q
        have n2 : (Sum.inr ("at" : Str) : Key) ≠ .inr key := fun z => k2 (Sum.inr.inj z).symm
        by_cases k3 : key = "digits"
        · subst k3
          simp only [if_true, optR] at q
          exact ⟨_, rfl, dg _ ((valV_ne n1).trans ((valV_ne n2).trans (valV_pos rfl))), q G _ H (Sub.refl G) r (.int _)⟩
        · rw [if_neg k3] at q
          have n3 : (Sum.inr ("digits" : Str) : Key) ≠ .inr key := fun z => k3 (Sum.inr.inj z).symm
          by_cases k4 : key = "count"
          · subst k4
            simp only [if_true, optR] at q
            exact ⟨_, rfl, dg _ ((valV_ne n1).trans ((valV_ne n2).trans ((valV_ne n3).trans (valV_pos rfl)))), q G _ H (Sub.refl G) r (.int _)⟩
          · rw [if_neg k4] at q
            have n4 : (Sum.inr ("count" : Str) : Key) ≠ .inr key := fun z => k4 (Sum.inr.inj z).symm
            by_cases k5 : key = "fold"
            · subst k5
              simp only [if_true, optR] at q
              exact ⟨_, rfl, dg _ ((valV_ne n1).trans ((valV_ne n2).trans ((valV_ne n3).trans ((valV_ne n4).trans (valV_pos rfl))))), q G _ H (Sub.refl G) r (.int _)⟩
            · rw [if_neg k5] at q
              exact q.elim
  · exact q.elim
def penSet (key : Str) (p : Pen) (v : D) : Option Pen := match v with
  | .int z => if key = "at" then some { p with at_ := z } else if key = "digits" then some { p with digits := z } else if key = "count" then some { p with count := z } else if key = "fold" then some { p with fold := z } else none
  | _ => none
def sPen (i : Nat) (key : Str) (f : EM) : SM := fun e p => toS (f e p) fun d e p => match e[i]? with
  | some (some (.v .pen)) => (match penSet key p d with
    | some p' => .nx e p'
    | none => .bad)
  | _ => .bad
theorem R.penW {W : Wd} {G H : Hp} {e : Ev} {p p' : Pen} {σ : L2.St} (r : R W G e p σ H) {kvs : List (Key × V)} (h : PenAt W.pa p' G (upd H W.pa (.dK kvs))) : R W G e p' σ (upd H W.pa (.dK kvs)) := by
  obtain ⟨fps, h1, h2, h3⟩ := r.sls
  have b := r.base
  obtain ⟨g1, ca, g2, g3⟩ := b.pen
  refine ⟨⟨b.sub.mut g1, b.g0, b.new, fun a o ha hp ht => ?_, b.gt, b.nt, tabs_but b.tab (by rw [g3]; exact soft_dK _) fun c hc => upd_ne hc, h⟩, fps, h1.mono (Sub.refl G) fun a ha o ho => ?_, h2, h3⟩
  · rw [upd_ne hp]
    exact b.kept a o ha hp ht
  · rw [upd_ne (h3 a ha).2.2]
    exact ho
theorem ds_pen {x key : Str} {xp kp p2 : Pos} {j : Nat} (i : Nat) (hu : X.A.units + 1 < cLine) (ha : DE X WW a fa) (hN : X.N[i]? = some x := by rfl) (hv : Vis X.env.scope x := by first | exact Or.inl rfl | exact Or.inr (Or.inl rfl) | exact Or.inr (Or.inr rfl)) (hd : (x == ("__debug__" : Str)) = false := by decide)
    (hcd : (x == ("__classdict__" : Str)) = false := by decide) (hs : swapsWith a (some (.Subscript (.Name x xp) (.Constant (.str key) j kp) p2)) pos.line X.env = pure false := by rfl) :
    DS X WW (.Assign [.Subscript (.Name x xp) (.Constant (.str key) j kp) p2] a pos) (sPen i key fa) := by
  refine PSw (ps_dput hu (pe_var hN hv hd hcd) pe_str ha hs) fun D σ H q => (es_w q).imp fun v H1 ⟨w, G, d, e, p, r, hv, q1⟩ => ?_
  split at q1
  · rename_i hp
    obtain ⟨v', h1, h2⟩ := r.getV hp
    cases h2
    obtain ⟨g1, ca, g2, g3⟩ := r.base.pen
    refine ⟨_, h1, w.pa, ?_⟩
    cases hz : penSet key p d with
    | none => rw [hz] at q1; exact q1.elim
    | some p' =>
      rw [hz] at q1
      unfold penSet at hz
      split at hz
      · rename_i z
        cases hv
        obtain ⟨hc, hk⟩ : p'.cells = p.cells ∧ putK ([(.inr "cells", .ref ca), (.inr "at", .int p.at_), (.inr "digits", .int p.digits), (.inr "count", .int p.count), (.inr "fold", .int p.fold)] : List (Key × V)) (.inr key) (.int z) =
            [(.inr "cells", .ref ca), (.inr "at", .int p'.at_), (.inr "digits", .int p'.digits), (.inr "count", .int p'.count), (.inr "fold", .int p'.fold)] := by
          by_cases k2 : key = "at"
          · subst k2
            simp only [if_true] at hz
            cases hz
            exact ⟨rfl, rfl⟩
          · rw [if_neg k2] at hz
            by_cases k3 : key = "digits"
            · subst k3
              simp only [if_true] at hz
              cases hz
              exact ⟨rfl, rfl⟩
            · rw [if_neg k3] at hz
              by_cases k4 : key = "count"
              · subst k4
                simp only [if_true] at hz
                cases hz
                exact ⟨rfl, rfl⟩
              · rw [if_neg k4] at hz
                by_cases k5 : key = "fold"
                · subst k5
                  simp only [if_true] at hz
                  cases hz
                  exact ⟨rfl, rfl⟩
                · rw [if_neg k5] at hz
                  cases hz
        refine ⟨_, rfl, .inl ⟨_, .inr key, g3, rfl, (by show 5 < sizeLine; rw [sizeLine_eq]; omega), rfl⟩, q1 G σ _ (Sub.refl G) (r.penW ⟨g1, ca, by rw [hc]; exact g2, ?_⟩)⟩
        rw [upd_same, hk]
      · cases hz
  · exact q1.elim
end
end Pd

namespace Pd
open PySem PySem.Spec L2 PyProof.Rows
def foldP (ns : List Int) : Int := ns.foldl (fun f c => (f * 47 + c) % 1000000007) 0
def penOf (ns : List Int) : Pen := ⟨ns, 0, 0, 0, foldP ns⟩
theorem foldP_snoc (ns : List Int) (n : Int) : foldP (ns ++ [n]) = (foldP ns * 47 + n) % 1000000007 := by unfold foldP; rw [List.foldl_append]; rfl
theorem foldP_lt (ns : List Int) : 0 ≤ foldP ns ∧ foldP ns < 1000000007 := by
  rcases List.eq_nil_or_concat ns with rfl | ⟨m, x, rfl⟩
  · decide
  · rw [List.concat_eq_append, foldP_snoc]
    exact ⟨Int.emod_nonneg _ (by decide), Int.emod_lt_of_pos _ (by decide)⟩
def spPen (K : PySem.W.Frag) : Sp := fun vs H Q _ => ∃ (a : Addr) (ns : List Int), vs = [.ref a] ∧ SqL K H a (ns.map V.int) ∧ ns.length ≤ 1000 ∧
  ∀ (pd ca : Addr) (H' : Hp), H pd = none → H ca = none → pd ≠ ca → H' ca = some (.lst (ns.map V.int)) →
    H' pd = some (.dK [(.inr "cells", .ref ca), (.inr "at", .int 0), (.inr "digits", .int 0), (.inr "count", .int 0), (.inr "fold", .int (foldP ns))]) → (∀ b, b ≠ pd → b ≠ ca → H' b = H b) → Q (.ref pd) H'
def t_pen (K : PySem.W.Frag) (tl : TE) : TS :=
  tSeq (tAsg (tC (.int 0)) (gName 1)) (tSeq (tFor (iList K (tVar 0)) (gName 2) (tAsg (tOp (rI (fun _ j => 0 < j) fun i j => .int (i % j)) (tCB (fun xs H Q => (∃ i, xs = [.int i] ∧ Q (.int i) H) ∨ ∃ k, xs = [.bl k] ∧ Q (.int (if k then 1 else 0)) H) (tCons (tOp (rI0 fun i j => .int (i + j)) (tOp (rI CMulW fun i j => .int (i * j)) (tVar 1) (tC (.int 47))) (tVar 2)) tNil)) (tC (.int 1000000007))) (gName 1)))
    (tRet (tDisp [(tC (.str "cells"), tl), (tC (.str "at"), tC (.int 0)), (tC (.str "digits"), tC (.int 0)), (tC (.str "count"), tC (.int 0)), (tC (.str "fold"), tVar 1)])))
abbrev rListOf (K : PySem.W.Frag) : List V → Hp → VK → Prop := fun xs H Q => ∃ p ys, xs = [.ref p] ∧ (SqL K H p ys ∨ SqT K H p ys) ∧ ∀ l, H l = none → Q (.ref l) (upd H l (.lst ys))
theorem pure_pen {K : PySem.W.Frag} (vs : List V) (H : Hp) (Q : VK) (E : XK) (h : spPen K vs H Q E) : t_pen K (tCB (rListOf K) (tCons (tVar 0) tNil)) { nx := fun _ H' => Q .non H', rt := Q } (L2.start ["script", "fold", "cell"] vs) H := by
  obtain ⟨a, ns, rfl, hS, hl, k⟩ := h
  refine ⟨_, rfl, a, rfl, ⟨_, hS⟩, for_list (K := K) (a := a) (xs := ns.map V.int) (fun i σ H' => H' = H ∧ ∃ v : Option V, σ = [some (.ref a), some (.int (foldP (ns.take i))), v]) ⟨rfl, none, rfl⟩ (fun i σ H' _ ⟨e, _⟩ => by rw [e]; exact hS) ?_ ?_⟩
  · rintro i y σ H' hi ⟨rfl, v, rfl⟩
    obtain ⟨z, hz, rfl⟩ : ∃ z, ns[i]? = some z ∧ y = V.int z := by
      rw [List.getElem?_map] at hi
      cases e : ns[i]? with
      | none => rw [e] at hi; cases hi
      | some z =>
        rw [e] at hi
        exact ⟨z, rfl, (Option.some.inj hi).symm⟩
    have step : foldP (ns.take (i + 1)) = (foldP (ns.take i) * 47 + z) % 1000000007 := by
      rw [← foldP_snoc]
      congr 1
      rw [List.take_succ, hz]
      rfl
    have hm : CMulW (foldP (ns.take i)) 47 := by
      have b := foldP_lt (ns.take i)
      have h1 : (foldP (ns.take i)).natAbs < 2 ^ 30 := by omega
      have h2 : (foldP (ns.take i)).natAbs.log2 < 31 := by
        by_cases z0 : (foldP (ns.take i)).natAbs = 0
        · rw [z0]; decide
        · exact Nat.lt_of_lt_of_le ((Nat.log2_lt z0).mpr h1) (by decide)
      have h3 : (47 : Int).natAbs.log2 = 5 := by decide
      unfold CMulW
      rw [h3]
      omega
    refine ⟨_, rfl, _, _, rfl, rfl, hm, _, rfl, _, _, rfl, rfl, .inl ⟨_, rfl, _, _, rfl, rfl, (by show (0 : Int) < 1000000007; decide), ⟨rfl, some (.int z), ?_⟩⟩⟩
    rw [step]
    rfl
  · rintro σ H' ⟨rfl, v, rfl⟩
    rw [List.length_map, List.take_length]
    intro p hp
    refine ⟨_, rfl, a, ns.map V.int, rfl, .inl ((Sub.new hp).l hS), fun l hlq => ?_⟩
    have nl : l ≠ p := fun z => by rw [z, upd_same] at hlq; cases hlq
    have hln : H' l = none := by rw [upd_ne nl] at hlq; exact hlq
    refine ⟨_, rfl, by rw [upd_ne nl.symm, upd_same], [(.inr "cells", .ref l), (.inr "at", .int 0), (.inr "digits", .int 0), (.inr "count", .int 0), (.inr "fold", .int (foldP ns))], rfl, (by show 5 ≤ 15; decide), ?_⟩
    refine k p l _ hp hln nl.symm (by rw [upd_ne nl, upd_same]) (by rw [upd_same]; rfl) fun b h1 h2 => by rw [upd_ne h1, upd_ne h2, upd_ne h1]
theorem law_tS {X : Cx} {WW : WX} {rest : SM} {n : Nat} {ns : List Int} {a pd ca : Addr} {H H' : Hp} {D : Ends} (hT : H tabP = some (.tbl #[])) (h1 : H pd = none) (h2 : H ca = none) (h3 : pd ≠ ca) (h4 : H' ca = some (.lst (ns.map V.int)))
    (h5 : H' pd = some (.dK [(.inr "cells", .ref ca), (.inr "at", .int 0), (.inr "digits", .int 0), (.inr "count", .int 0), (.inr "fold", .int (foldP ns))])) (h6 : ∀ b, b ≠ pd → b ≠ ca → H' b = H b)
    (pure : ∃ e' p', rest (none :: some (.v .pen) :: List.replicate n none) (penOf ns) = .rt (.bl true) e' p') (hD : D.rt (.bl true) = fun _ => True) :
    tS X WW rest D (some (.ref a) :: some (.ref pd) :: List.replicate n none) H' := by
  have hG : ∀ b o, (fun b => if b = ca then some (HO.lst (ns.map V.int)) else none) b = some o → b = ca ∧ o = .lst (ns.map V.int) := fun b o h => by
    dsimp only at h
    split at h
    · rename_i e
      exact ⟨e, (Option.some.inj h).symm⟩
    · cases h
  refine ⟨⟨pd, fun _ => none, fun b => if b = ca then some (.lst (ns.map V.int)) else none, 0⟩, fun b => if b = ca then some (.lst (ns.map V.int)) else none, none :: some (.v .pen) :: List.replicate n none, penOf ns, ⟨⟨fun b o h => ?_, Sub.refl _, fun b h => .inl h, fun b o h => (nomatch h), fun b ps h => ?_, fun b ps h => (nomatch h), fun q hq => ?_, ?_⟩, List.replicate (n + 2) [], ?_, by simp, fun b hb => by simp at hb⟩, ?_⟩
  · obtain ⟨rfl, rfl⟩ := hG b o h
    exact h4
  · obtain ⟨_, e⟩ := hG b _ h
    cases e
  · have : q = (tabP, ("law.<locals>.<lambda>" : Str)) := List.mem_singleton.mp hq
    subst this
    refine LamX.TabS.nil ?_
    show H' tabP = _
    rw [h6 tabP (fun z => by rw [z, h1] at hT; cases hT) (fun z => by rw [z, h2] at hT; cases hT)]
    exact hT
  · exact ⟨if_neg h3, ca, if_pos rfl, h5⟩
  · refine .cons .emp (.cons (.val .pen) ?_)
    clear pure
    induction n with
    | zero => exact .nil
    | succ n ih => exact .cons .emp ih
  · obtain ⟨e', p', hp⟩ := pure
    show PostS _ _ _ _ (rest _ _)
    rw [hp]
    intro G' v H1 s b hv
    cases hv
    show D.rt (.bl true) H1
    rw [hD]
    trivial
theorem mem_of_lookup2 {α β : Type} [BEq α] [LawfulBEq α] {x : α} {b : β} : ∀ {l : List (α × β)}, l.lookup x = some b → (x, b) ∈ l
  | [], h => by simp at h
  | (y, c) :: l, h => by
    rw [List.lookup_cons] at h
    cases q : x == y with
    | true =>
      simp only [q] at h
      cases h
      rw [eq_of_beq q]
      exact List.mem_cons_self
    | false =>
      simp only [q] at h
      exact List.mem_cons_of_mem _ (mem_of_lookup2 h)
end Pd

namespace Pd
open PySem PySem.Spec L2 PyProof.Rows LamX
theorem law_callG {P : Program} {w : World} {K : PySem.W.Frag} {mg mb : Str → Option Value} {fa a c T : Addr} {s₁ : Shared} {vs : List Value} {ns : List Int}
    (KX : K.In s₁.heap) (hns : s₁.heap.Ns mainGlobals mg) (hb : s₁.heap.Ns builtinsNs mb) (hbb : ∀ x : Str, x ≠ "__name__" → mb x = bootBuiltins x) (hlim : s₁.heap.NoLimit) (hg : s₁.gens = #[])
    (hT : s₁.heap.get? T = some { cls := .none, data := .fields #[] }) (nT : K.lookup T = none) (C : PySem.W.CodeHd s₁.heap c T)
    (hbm : ∃ (bm : Addr) (ob : Obj), mg "__builtins__" = some (.ref bm) ∧ bm ≠ builtinsNs ∧ s₁.heap.get? bm = some ob ∧ ob.cls = .type "module" ∧ ob.dict = some builtinsNs ∧ ob.data = .plain)
    (ha : s₁.heap.get? a = some { cls := .type "list", data := .seq vs.toArray }) (hi : IntsAre vs ns) (hl : ns.length ≤ sizeLine)
    (F : ∀ (base : Heap) (H : Hp), TabB base mg c T → Env0 P w K mg base callerA [] s₁ H → H T = some (.tbl #[]) → SqL K H a (ns.map V.int) →
      codeAny (model P w) callerA (.call (.ref fa) ⟨[.ref a], []⟩) (CR (L2.CX P w) [] P w H s₁ (fun v _ => v = .bl true) (fun _ _ _ => False)) s₁) :
    codeAny (model P w) callerA (.call (.ref fa) ⟨[.ref a], []⟩) (fun r s' => r = .ok (.ret (.bool true)) ∧ OldK s₁.heap s'.heap ∧ s'.os = s₁.os ∧ AllBare s'.gens) s₁ := by
  have rv := vals_ints hi
  have lenV := hi.length
  have aT : a ≠ T := fun z => by
    rw [z, hT] at ha
    have := congrArg Obj.data (Option.some.inj ha)
    cases this
  obtain ⟨H, hH1, hH2, hH3, hH4, hS⟩ : ∃ H : Hp, H T = some (.tbl #[]) ∧ (∀ b o, H b = some o → (b = T ∧ o = .tbl #[]) ∨ (b = a ∧ K.lookup a = none ∧ o = .frz { cls := .type "list", data := .seq vs.toArray } (.lst (ns.map V.int)))) ∧
      True ∧ True ∧ SqL K H a (ns.map V.int) := by
    cases hk : K.lookup a with
    | some o =>
      have e := KX a o hk
      rw [ha] at e
      cases e
      refine ⟨fun b => if b = T then some (.tbl #[]) else none, if_pos rfl, fun b o h => ?_, trivial, trivial, .inr ⟨_, vs.toArray, _, hk, rfl, rfl, rfl, by rw [List.size_toArray, lenV]; exact hl, by simpa using rv⟩⟩
      dsimp only at h
      split at h
      · rename_i e
        exact .inl ⟨e, (Option.some.inj h).symm⟩
      · cases h
    | none =>
      refine ⟨fun b => if b = T then some (.tbl #[]) else if b = a then some (.frz { cls := .type "list", data := .seq vs.toArray } (.lst (ns.map V.int))) else none, if_pos rfl, fun b o h => ?_, trivial, trivial, .inl (.inr ⟨_, (if_neg aT).trans (if_pos rfl)⟩)⟩
      dsimp only at h
      split at h
      · rename_i e
        exact .inl ⟨e, (Option.some.inj h).symm⟩
      · split at h
        · rename_i e
          exact .inr ⟨e, rfl, (Option.some.inj h).symm⟩
        · cases h
  have isNone : ∀ {b : Addr} {o : Obj}, s₁.heap.get? b = some o → (∀ vs n, o.data ≠ .seq vs n) → o.data ≠ .fields #[] → H b = none := fun {b o} e h1 h2 => by
    cases q : H b with
    | none => rfl
    | some u =>
      rcases hH2 b u q with ⟨e', _⟩ | ⟨e', _⟩
      · rw [e', hT] at e
        cases e
        exact (h2 rfl).elim
      · rw [e', ha] at e
        cases e
        exact (h1 _ _ rfl).elim
  have nsK : ∀ {b : Addr} {m : Str → Option Value}, s₁.heap.Ns b m → (hidT s₁.heap H).Ns b m := fun {b m} ⟨o, es, ep, e, d, r⟩ => ⟨o, es, ep, hidT_get e (isNone e (fun vs n z => by rw [d] at z; cases z) fun z => by rw [d] at z; cases z), d, r⟩
  have hKb : K.In (hidT s₁.heap H) := fun b o e => hidT_get (KX b o e) (by
    cases q : H b with
    | none => rfl
    | some u =>
      rcases hH2 b u q with ⟨e', _⟩ | ⟨e', n, _⟩
      · rw [e', nT] at e
        cases e
      · rw [e', n] at e
        cases e)
  have hM : L2.Mod K mg (hidT s₁.heap H) := ⟨hKb, nsK hns, ⟨mb, nsK hb, hbb⟩, let ⟨mc, h1, h2⟩ := hlim; ⟨mc, nsK h1, h2⟩⟩
  have hok : HOk P w H s₁.heap := fun b u z => by
    rcases hH2 b u z with ⟨e1, e2⟩ | ⟨e1, _, e2⟩
    · rw [e1, e2]
      exact hT
    · rw [e1, e2]
      exact ⟨ha, by rw [List.length_map]; exact hl, vs, _, rv, ha⟩
  have TB : TabB (hidT s₁.heap H) mg c T := by
    refine ⟨?_, ?_, fun z => ?_⟩
    · obtain ⟨o, us, file, tf, flags, tg, inF, text, tt, e1, r1, r2, r3, rest⟩ := id C
      refine ⟨o, us, file, tf, flags, tg, inF, text, tt, hidT_get e1 (isNone e1 (fun vs n z => by rw [r2] at z; cases z) fun z => ?_), r1, r2, r3, rest⟩
      rw [r2] at z
      cases z
      simp at r3
    · obtain ⟨bm, ob, b1, b2, b3, b4, b5, b6⟩ := hbm
      refine ⟨bm, ob, b1, b2, fun q => ?_, fun q => ?_, hidT_get b3 (isNone b3 (fun vs n z => by rw [b6] at z; cases z) fun z => by rw [b6] at z; cases z), b4, b5, b6⟩
      · obtain ⟨o, es, ep, e, hd, _⟩ := hns
        rw [q, e] at b3
        cases b3
        rw [hd] at b6
        cases b6
      · rw [q, hT] at b3
        cases b3
        cases b6
    · obtain ⟨o, es, ep, e, hd, _⟩ := hns
      rw [z, hT] at e
      cases e
      cases hd
  have e0 : Env0 P w K mg (hidT s₁.heap H) callerA [] s₁ H := ⟨rfl, hM, fun b o e => of_hidT e, Nat.le_of_eq (hidT_size _ _), trivial, fun b hb => absurd (show b ∈ ([] : List Addr) from hb) (by simp), hok, .of_eq hg⟩
  refine codeAny_mono (F _ H TB e0 hH1 hS) fun r s' h => ?_
  cases r with
  | error e =>
    obtain ⟨_, _, _, _, _, _, _, _, _, _, _, _, z⟩ := h
    exact z.elim
  | ok fl =>
    cases fl with
    | next => exact False.elim h
    | brk => exact False.elim h
    | cont => exact False.elim h
    | ret u =>
      obtain ⟨v, H', os, bare, un, hok', r', q⟩ := h
      have q' : v = .bl true := q
      subst q'
      obtain rfl : u = Value.bool true := r'
      have key : ∀ b o, b ≠ T → s₁.heap.get? b = some o → s'.heap.get? b = some o := fun b o nb e => by
        cases q : H b with
        | none => exact un.keep b o e q (by intro z; exact absurd (show b ∈ ([] : List Addr) from z) (by simp)) (by simp)
        | some u =>
          rcases hH2 b u q with ⟨z, _⟩ | ⟨rfl, _, rfl⟩
          · exact absurd z nb
          · obtain ⟨e2, _⟩ := hok' b _ (un.frzs b _ _ q)
            rw [ha] at e
            cases e
            exact e2
      obtain ⟨more, z⟩ := un.tbls T #[] hH1
      obtain ⟨more', gT⟩ : ∃ more : Array Value, s'.heap.get? T = some { cls := .none, data := .fields more } := ⟨_, hok' T _ z⟩
      refine ⟨rfl, ⟨fun b o e => ?_, fun b o e => ?_⟩, os, bare⟩
      · by_cases hb : b = T
        · rw [hb] at e ⊢
          rw [hT] at e
          cases e
          exact .inr (.inl ⟨(C.tab hT).isCodeTable, rfl, #[], more', rfl, by rw [Array.empty_append]; exact gT⟩)
        · exact .inl (key b o hb e)
      · by_cases hb : b = T
        · rw [hb]
          exact ⟨_, gT⟩
        · exact ⟨o, key b o hb e⟩
theorem walk_G {l : PySem.W.OpenLaw} {n : Nat} {q : Program} {loose : List Str} {XP : (Str → Option Value) → Heap → Prop} {YP : World → Heap → Prop} {d : DefRec} {K : Params → PySem.W.Frag}
    (hn : l.most = some n) (hn2 : n ≤ sizeLine) (hdf : d.params.defaults = []) (hrec : ((recsOf q).any fun e => e.name == d.name) = true) (hY : ∀ (w : World) (h : Heap), YP w h → (K w.params).In h)
    (F : ∀ (w : World) (mg : Str → Option Value) (fa : Addr) (h : Heap), (K w.params).In h → h.Ns mainGlobals mg → mg d.name = some (.ref fa) →
      ∃ (c T : Addr) (o : Obj) (fd : FuncData) (e : Value) (dd : Option Addr) (vs : Array Value) (sl : Array (Option Value)), (K w.params).lookup fa = some o ∧ o.data = .func fd ∧ fd.code = .ref c ∧ (K w.params).lookup c = some ⟨e, dd, .fields vs, sl⟩ ∧ vs[11]? = some (.ref T) ∧ (K w.params).lookup T = none ∧ PySem.W.CodeHd h c T ∧
        ∀ (s₁ : Shared) (a : Addr) (ns : List Int), ns.length ≤ n → (∀ z ∈ ns, Builtin.Int.intBits z ≤ 1048576) → ∀ (base : Heap) (H : Hp), (K w.params).In base → base.Ns mainGlobals mg → TabB base mg c T → Env0 l.prog w (K w.params) mg base callerA [] s₁ H → H T = some (.tbl #[]) → SqL (K w.params) H a (ns.map V.int) →
          codeAny (model l.prog w) callerA (.call (.ref fa) ⟨[.ref a], []⟩) (CR (L2.CX l.prog w) [] l.prog w H s₁ (fun v _ => v = .bl true) (fun _ _ _ => False)) s₁) :
    PySem.W.WalkO q loose XP YP l.row.toRowW d [] (fun f vs => PySem.call f vs) := by
  refine Att.attach_callB hn hdf fun w s₀ s₁ mg mb fa o pm cd doc a vs ns G Y ho hd hcd hmg hobj hints hlen hbits hg => ?_
  have KX := hY w _ Y
  obtain ⟨c, T, o1, fd1, e, dd, vs1, sl, k1, k2, k3, k4, k5, nT, hC, run⟩ := F w mg fa _ KX G.T.g hmg
  have own : s₁.heap.get? T = some { cls := .none, data := .fields #[] } := by
    obtain ⟨dL, hm, hn1⟩ := List.any_eq_true.mp hrec
    have hn2 : dL.name = d.name := beq_iff_eq.mp hn1
    obtain ⟨a', o', fd', c', P', h1, h2, h3, h4, h5, h6⟩ := G.T.tab dL hm
    rw [hn2, hmg] at h1
    cases h1
    rw [KX _ _ k1] at h2
    cases h2
    rw [k2] at h3
    cases h3
    rw [k3] at h4
    cases h4
    obtain ⟨⟨oc, vc, e1, _, e3, e4⟩, hP⟩ := h6
    rw [KX _ _ k4] at e1
    cases e1
    cases e3
    rw [k5] at e4
    cases e4
    exact hP
  exact law_callG KX G.T.g G.T.b G.T.builtins G.T.nolimit hg own nT hC G.T.bmain hobj hints (Nat.le_trans hlen hn2) fun base H TB e0 hT hS => run s₁ a ns hlen hbits base H e0.mod.kin e0.mod.glob TB e0 hT hS
end Pd

namespace Pd
open PySem PySem.Spec L2 PyProof.Rows LamX
section
variable {P : Program} {w : World} {K : PySem.W.Frag} {mg : Str → Option Value} {h : Heap} {x : Str} {st : Stmt}
theorem defAt0 {f : Addr} {oc kV doc pm cdv ct : Value} {od an : Option Addr} {sl : Array (Option Value)} (X : K.In h) (G : h.Ns mainGlobals mg) (a : PySem.W.nsIn K mainGlobals x = some (some (.ref f)))
    (l : K.lookup f = some ⟨oc, od, .func (PySem.W.fnOf x x (defArgs st) (defBody st) (defScope st) .none kV doc pm an cdv ct), sl⟩) (c : PySem.W.codeIn K cdv x = true) (k : PySem.W.keepIn K (.ref f) = true) : DefAt K mg x st [] :=
  ⟨f, _, ⟨⟨oc, od, .none, kV, doc, pm, an, cdv, ct, sl, rfl, l, c, .inl ⟨rfl, rfl⟩, .inl rfl⟩, k⟩, PySem.W.mg_of X G a⟩
theorem defAt1 {f T : Addr} {oc kV doc pm cdv ct : Value} {od an : Option Addr} {sl : Array (Option Value)} {oT : Value} {odT : Option Addr} {nT : Nat} {slT : Array (Option Value)} (X : K.In h) (G : h.Ns mainGlobals mg) (a : PySem.W.nsIn K mainGlobals x = some (some (.ref f)))
    (l : K.lookup f = some ⟨oc, od, .func (PySem.W.fnOf x x (defArgs st) (defBody st) (defScope st) (.ref T) kV doc pm an cdv ct), sl⟩) (c : PySem.W.codeIn K cdv x = true) (k : PySem.W.keepIn K (.ref f) = true) (t : K.lookup T = some ⟨oT, odT, .seq #[.none] nT, slT⟩) : DefAt K mg x st [.non] :=
  ⟨f, _, ⟨⟨oc, od, .ref T, kV, doc, pm, an, cdv, ct, sl, rfl, l, c, .inr ⟨by simp, T, _, [.none], nT, rfl, t, rfl, .cons rfl .nil⟩, .inl rfl⟩, k⟩, PySem.W.mg_of X G a⟩
open PySem.HandSPX PySem.W in
theorem xt1 {c n qual : Str} {C fI cc cda : Addr} {nm q : Str} {N : Addr} {bs bm : List Value} {sn : List Str} {sub : List Value} {ab : Bool} {col : Option Bool} {dd : Option Addr} {k0 k1 k2 k3 k5 : Option Value} {cl : Value} {cld : Option Addr} {csl : Array (Option Value)}
    {ccl : Value} {cdd : Option Addr} {vs : Array Value} {ccs : Array (Option Value)} {file : Str} {tf : Tok} {doc pm ct oc : Value} {od an : Option Addr} {osl : Array (Option Value)} {p0 p1 a1 a2 a3 a5 a6 b1 c1 c2 c3 c4 : Pos}
    (X : K.In h) (G : h.Ns mainGlobals mg) (aC : nsIn K mainGlobals c = some (some (.ref C))) (lC : K.lookup C = some (excClassObj nm q C N bs bm true sn sub ab col dd k0 k1 k2 k3 k5 "ValueError.__new__")) (rf : refsVE bm = true)
    (sa : findIn K (.ref C) "__setattr__" = some (some (.builtin "object.__setattr__"))) (ga : findIn K (.ref C) "__getattribute__" = some (some (.builtin "BaseException.__getattribute__"))) (gg : findIn K (.ref C) "__getattr__" = some none)
    (nn : findIn K (.ref C) n = some none) (iC : findIn K (.ref C) "__init__" = some (some (.ref fI)))
    (lI : K.lookup fI = some ⟨oc, od, .func (ksFn "__init__" qual (PdX.iA1 n p0 p1) [PdX.iSup [.Name n b1] a1 a2 a3 a5 a6, PdX.iSt n c1 c2 c3 c4] (PdX.iS1 n) .none .none doc pm an (.ref cda) ct cc), osl⟩) (hcd : codeIn K (.ref cda) qual = true)
    (tC : typeIn K (.ref fI) = some (.type "function")) (kC : keepIn K (.ref C) = true) (exC : subIn K (.ref C) (.type "BaseException") = some true) (veC : subIn K (.ref C) (.type "ValueError") = some true) (tyC : typeIn K (.ref C) = some (.type "type")) (hdC : hasDictIn K C = true)
    (sup : ks_superIn K C C "__init__" = some (some (.builtin "ValueError.__init__"))) (noany : nsIn K cStatics "thirdparty.any" = some none) (self : mroIn K C (.ref C) = some true) (cell : K.lookup cc = some ⟨cl, cld, .cell (some (.ref C)), csl⟩)
    (code : K.lookup cda = some ⟨ccl, cdd, .fields vs, ccs⟩) (hvs : vs[2]? = some (.str file tf)) (hfile : ((P.main.file : Str) == file) = true) (top : (P.main.scope.names.lookup ("super" : Str)).isSome = false) (nosup : nsIn K mainGlobals "super" = some none)
    (n0 : (PdX.iS1 n).names.lookup n = some .local) (n1 : (PdX.iS1 n).names.lookup ("__class__" : Str) = some .free) (n2 : (PdX.iS1 n).names.lookup ("super" : Str) = some .globalImplicit) (n3 : (n == ("self" : Str)) = false) (n4 : (n == ("__debug__" : Str)) = false) (n5 : (PdX.iS1 n).names.lookup ("self" : Str) = some .local) (n6 : ∀ x ∈ (PdX.iS1 n).names, x.2 ≠ .cell)
    (heq : PdX.SupEq [.Name n b1] a1 a2 a3 a5 fun L => ksEnv qual (PdX.iS1 n) L fI (.ref cda) cc)
    (hbind : ∀ x v, bindArgs (ksFn "__init__" qual (PdX.iA1 n p0 p1) [PdX.iSup [.Name n b1] a1 a2 a3 a5 a6, PdX.iSt n c1 c2 c3 c4] (PdX.iS1 n) .none .none doc pm an (.ref cda) ct cc) ⟨[.ref x, v], []⟩ = pure [(("self" : Str), .ref x), (n, v)]) :
    ∃ C fI cc cda, PdX.Xt P K mg c C fI cc cda [n] ∧ PdX.Initd P w K mg C fI [n] := by
  have T : PdX.Xt P K mg c C fI cc cda [n] := { gC := mg_of X G aC, cls := ⟨_, _, _, _, _, _, _, _, _, _, _, _, _, _, _, lC, rf⟩, sa := sa, ga := ga, gg := gg, noN := fun f hf => by rw [List.mem_singleton.mp hf]; exact nn, iC := iC, tC := tC, kC := kC, exC := exC, veC := veC, tyC := tyC, hdC := hdC, sup := sup, noany := noany, self := self, cell := ⟨_, _, _, cell⟩, code := ⟨_, _, _, _, _, _, code, hvs, hfile⟩, top := top, nosup := mg_none_of X G nosup }
  refine ⟨C, fI, cc, cda, T, fun A s mb x t0 us R hl KX lim GG BB hbb hx hnx hroom hq => ?_⟩
  match us, hl with
  | [v], _ => exact PdX.init1 T lI hcd KX lim GG BB hbb hx hnx hroom n0 n1 n2 n3 n4 n5 n6 heq (.of_eq (hbind x v)) hq
open PySem.HandSPX PySem.W in
theorem xt2 {c n m qual : Str} {C fI cc cda : Addr} {nm q : Str} {N : Addr} {bs bm : List Value} {sn : List Str} {sub : List Value} {ab : Bool} {col : Option Bool} {dd : Option Addr} {k0 k1 k2 k3 k5 : Option Value} {cl : Value} {cld : Option Addr} {csl : Array (Option Value)}
    {ccl : Value} {cdd : Option Addr} {vs : Array Value} {ccs : Array (Option Value)} {file : Str} {tf : Tok} {doc pm ct oc : Value} {od an : Option Addr} {osl : Array (Option Value)} {p0 p1 p2 a1 a2 a3 a5 a6 b1 b2 c1 c2 c3 c4 d1 d2 d3 d4 : Pos}
    (X : K.In h) (G : h.Ns mainGlobals mg) (aC : nsIn K mainGlobals c = some (some (.ref C))) (lC : K.lookup C = some (excClassObj nm q C N bs bm true sn sub ab col dd k0 k1 k2 k3 k5 "ValueError.__new__")) (rf : refsVE bm = true)
    (sa : findIn K (.ref C) "__setattr__" = some (some (.builtin "object.__setattr__"))) (ga : findIn K (.ref C) "__getattribute__" = some (some (.builtin "BaseException.__getattribute__"))) (gg : findIn K (.ref C) "__getattr__" = some none)
    (nn : findIn K (.ref C) n = some none) (nm2 : findIn K (.ref C) m = some none) (iC : findIn K (.ref C) "__init__" = some (some (.ref fI)))
    (lI : K.lookup fI = some ⟨oc, od, .func (ksFn "__init__" qual (PdX.iA2 n m p0 p1 p2) [PdX.iSup [.Name n b1, .Name m b2] a1 a2 a3 a5 a6, PdX.iSt n c1 c2 c3 c4, PdX.iSt m d1 d2 d3 d4] (PdX.iS2 n m) .none .none doc pm an (.ref cda) ct cc), osl⟩) (hcd : codeIn K (.ref cda) qual = true)
    (tC : typeIn K (.ref fI) = some (.type "function")) (kC : keepIn K (.ref C) = true) (exC : subIn K (.ref C) (.type "BaseException") = some true) (veC : subIn K (.ref C) (.type "ValueError") = some true) (tyC : typeIn K (.ref C) = some (.type "type")) (hdC : hasDictIn K C = true)
    (sup : ks_superIn K C C "__init__" = some (some (.builtin "ValueError.__init__"))) (noany : nsIn K cStatics "thirdparty.any" = some none) (self : mroIn K C (.ref C) = some true) (cell : K.lookup cc = some ⟨cl, cld, .cell (some (.ref C)), csl⟩)
    (code : K.lookup cda = some ⟨ccl, cdd, .fields vs, ccs⟩) (hvs : vs[2]? = some (.str file tf)) (hfile : ((P.main.file : Str) == file) = true) (top : (P.main.scope.names.lookup ("super" : Str)).isSome = false) (nosup : nsIn K mainGlobals "super" = some none)
    (n0 : (PdX.iS2 n m).names.lookup n = some .local) (m0 : (PdX.iS2 n m).names.lookup m = some .local) (n1 : (PdX.iS2 n m).names.lookup ("__class__" : Str) = some .free) (n2 : (PdX.iS2 n m).names.lookup ("super" : Str) = some .globalImplicit) (n3 : (n == ("self" : Str)) = false) (m3 : (m == ("self" : Str)) = false) (nm3 : (n == m) = false) (n4 : (n == ("__debug__" : Str)) = false) (m4 : (m == ("__debug__" : Str)) = false) (n5 : (PdX.iS2 n m).names.lookup ("self" : Str) = some .local) (n6 : ∀ x ∈ (PdX.iS2 n m).names, x.2 ≠ .cell)
    (heq : PdX.SupEq [.Name n b1, .Name m b2] a1 a2 a3 a5 fun L => ksEnv qual (PdX.iS2 n m) L fI (.ref cda) cc)
    (hbind : ∀ x v u, bindArgs (ksFn "__init__" qual (PdX.iA2 n m p0 p1 p2) [PdX.iSup [.Name n b1, .Name m b2] a1 a2 a3 a5 a6, PdX.iSt n c1 c2 c3 c4, PdX.iSt m d1 d2 d3 d4] (PdX.iS2 n m) .none .none doc pm an (.ref cda) ct cc) ⟨[.ref x, v, u], []⟩ = pure [(("self" : Str), .ref x), (n, v), (m, u)]) :
    ∃ C fI cc cda, PdX.Xt P K mg c C fI cc cda [n, m] ∧ PdX.Initd P w K mg C fI [n, m] := by
  have T : PdX.Xt P K mg c C fI cc cda [n, m] := { gC := mg_of X G aC, cls := ⟨_, _, _, _, _, _, _, _, _, _, _, _, _, _, _, lC, rf⟩, sa := sa, ga := ga, gg := gg, noN := fun f hf => by
                                                     simp only [List.mem_cons, List.not_mem_nil, or_false] at hf
                                                     rcases hf with rfl | rfl
                                                     · exact nn
                                                     · exact nm2, iC := iC, tC := tC, kC := kC, exC := exC, veC := veC, tyC := tyC, hdC := hdC, sup := sup, noany := noany, self := self, cell := ⟨_, _, _, cell⟩, code := ⟨_, _, _, _, _, _, code, hvs, hfile⟩, top := top, nosup := mg_none_of X G nosup }
  refine ⟨C, fI, cc, cda, T, fun A s mb x t0 us R hl KX lim GG BB hbb hx hnx hroom hq => ?_⟩
  match us, hl with
  | [v, u], _ => exact PdX.init2 T lI hcd KX lim GG BB hbb hx hnx hroom n0 m0 n1 n2 n3 m3 nm3 n4 m4 n5 n6 heq (.of_eq (hbind x v u)) hq
theorem em_of {a b : Str} {A B : Addr} {r : Bool} (X : K.In h) (G : h.Ns mainGlobals mg) (h1 : PySem.W.nsIn K mainGlobals a = some (some (.ref A))) (h2 : PySem.W.nsIn K mainGlobals b = some (some (.ref B))) (e : PySem.W.exmOne K (.ref A) (.ref B) = some r) :
    ∀ x y, mg a = some (.ref x) → mg b = some (.ref y) → PySem.W.exmOne K (.ref x) (.ref y) = some r := fun x y hx hy => by
  rw [PySem.W.mg_of X G h1] at hx
  rw [PySem.W.mg_of X G h2] at hy
  cases hx
  cases hy
  exact e
theorem strs_rel : ∀ {xs : List Str} {us : List Value}, Vals (xs.map V.str) us → Vals (xs.map V.str) us := fun h => h
theorem ktup_of {a : Addr} {o : Obj} {its : Array Value} {n : Nat} {xs : List Str} (X : K.In h) (G : h.Ns mainGlobals mg) (h1 : PySem.W.nsIn K mainGlobals x = some (some (.ref a))) (l : K.lookup a = some o) (hc : o.cls = .type "tuple") (hd : o.data = .seq its n) (hz : its.size ≤ sizeLine) (hv : Vals (xs.map V.str) its.toList) :
    KTup K mg x (xs.map D.str) := by
  refine ⟨a, xs.map V.str, PySem.W.mg_of X G h1, fun H => .inr ⟨o, its, n, l, hc, hd, hz, hv⟩, fun mg pa G => ?_⟩
  clear hv
  induction xs with
  | nil => exact .nil
  | cons y ys ih => exact .cons (.str y) ih
theorem mgn (x : Str) (X : K.In h) (G : h.Ns mainGlobals mg) (a : PySem.W.nsIn K mainGlobals x = some none) : mg x = none := PySem.W.mg_none_of X G a
theorem mgi (x : Str) (i : Int) {t : Tok} (X : K.In h) (G : h.Ns mainGlobals mg) (a : PySem.W.nsIn K mainGlobals x = some (some (.int i t))) : ∃ t, mg x = some (.int i t) := ⟨t, PySem.W.mg_of X G a⟩
theorem mgs (x z : Str) {t : Tok} (X : K.In h) (G : h.Ns mainGlobals mg) (a : PySem.W.nsIn K mainGlobals x = some (some (.str z t))) : ∃ t, mg x = some (.str z t) := ⟨t, PySem.W.mg_of X G a⟩
theorem mgr (x : Str) {C : Addr} (X : K.In h) (G : h.Ns mainGlobals mg) (a : PySem.W.nsIn K mainGlobals x = some (some (.ref C))) : ∃ C, mg x = some (.ref C) := ⟨C, PySem.W.mg_of X G a⟩
end
end Pd
abbrev Pd.Kof {K : PySem.W.Frag} {h : PySem.Heap} (_ : K.In h) : PySem.W.Frag := K

namespace Pd
open PySem PySem.Spec PyProof.Rows L2
section
variable {X : Cx} {WW : WX}
def shrD : D → D → Option D
  | .int i, .int j => if 0 ≤ j then some (.int (i / 2 ^ j.toNat)) else none
  | _, _ => none
theorem l_shr : Lift2 X (rI (fun _ j => 0 ≤ j) fun i j => .int (i / 2 ^ j.toNat)) shrD := by
  intro w G H x y dx dy dz Q s hpa hx hy hz q
  unfold shrD at hz
  split at hz
  · rename_i i j
    cases hx
    cases hy.int
    split at hz
    · rename_i h
      cases hz
      exact ⟨i, j, rfl, rfl, h, q G H _ al0 (.int _)⟩
    · cases hz
  · cases hz
def andD : D → D → Option D
  | .int i, .int j => if j = 1 then some (.int (i % 2)) else none
  | _, _ => none
theorem l_and : Lift2 X (fun x y H Q => ∃ (i : Int) (k : Nat), x = .int i ∧ y = .int (2 ^ k - 1) ∧ Q (.int (i % 2 ^ k)) H) andD := by
  intro w G H x y dx dy dz Q s hpa hx hy hz q
  unfold andD at hz
  split at hz
  · rename_i i j
    cases hx
    cases hy.int
    split at hz
    · rename_i h
      cases hz
      subst h
      exact ⟨i, 1, rfl, rfl, q G H _ al0 (.int _)⟩
    · cases hz
  · cases hz
def ePop (j : Nat) (f : EM) : EM := fun e p => match e[j]? with
  | some (some (.own _)) => (f e p).bind fun d e p => (match e[j]?, d with
    | some (some (.own xs)), .int m => (if 0 ≤ m ∧ m < 2 ^ 63 then (match xs[m.toNat]? with
      | some y => .ok y (e.set j (some (.own (xs.eraseIdx m.toNat)))) p
      | none => .bad) else .bad)
    | _, _ => .bad)
  | _ => .bad
theorem Reps.eraseIdx {K : PySem.W.Frag} {mg : Str → Option Value} {pa : Addr} {G : Hp} : ∀ {vs : List V} {ds : List D} (i : Nat), Reps K mg pa G vs ds → Reps K mg pa G (vs.eraseIdx i) (ds.eraseIdx i)
  | _, _, _, .nil => .nil
  | _, _, 0, .cons _ r => r
  | _, _, i + 1, .cons h r => .cons h (Reps.eraseIdx i r)
theorem de_pop {a : Expr} {fa : EM} {pos cp ap xp : Pos} {j : Nat} {x : Str} (h : DE X WW a fa) (hN : X.N[j]? = some x := by rfl) (hv : Vis X.env.scope x := by first | exact Or.inl rfl | exact Or.inr (Or.inl rfl) | exact Or.inr (Or.inr rfl))
    (hm : ∀ (t : TE), PE X a t → PE X (.Call (.Attribute (.Name x xp) "pop" ap) [a] [] cp) (tBM X.K "list" rPopAt (tVar j) (tCons t tNil))) :
    DE X WW (.Call (.Attribute (.Name x xp) "pop" ap) [a] [] cp) (ePop j fa) := PEw (hm _ h) fun σ H Q ⟨w, G, e, p, r, q⟩ => by
  unfold ePop at q
  split at q
  · rename_i xs0 hx0
    obtain ⟨a, vs, h1, h2, h3, g1, g2, g3, _, _⟩ := r.getOwn hx0
    refine ⟨.ref a, h1, .inl ⟨rfl, vs, SqL.of h2⟩, (ee_w (ta := fa) ⟨w, G, e, p, r, q⟩).imp fun y H1 ⟨w, G, d, e, p, r, hy, q1⟩ => ?_⟩
    split at q1
    · rename_i xs m hx
      cases hy
      split at q1
      · rename_i hm
        cases hz : xs[m.toNat]? with
        | none => rw [hz] at q1; exact q1.elim
        | some dz =>
          rw [hz] at q1
          obtain ⟨a', vs', k1, k2, k3, _, _, _, k7, _⟩ := r.getOwn hx
          rw [h1] at k1
          cases k1
          obtain ⟨v, hv1, hv2⟩ := k3.get hz
          have hl : m.toNat < vs'.length := (List.getElem?_eq_some_iff.mp hv1).1
          refine ⟨a, vs', m, m.toNat, v, rfl, rfl, k2, by omega, hm.2, ?_, hv1, ?_⟩
          · show seqIndex? m vs'.length = some m.toNat
            have n1 : ¬ m < 0 := by omega
            have n2 : m < (vs'.length : Int) := by omega
            simp [seqIndex?, n1, n2, hm.1]
          · exact q1 G v _ (Sub.refl _) (k7 _ _ (k3.eraseIdx _)) hv2
      · exact q1.elim
    · exact q1.elim
  · exact q.elim
end
end Pd

namespace Pd
open PySem PySem.Spec PyProof.Rows L2
theorem soft_ins {C dx : Addr} {fs : List (Str × V)} : Soft (some (.ins C dx fs)) := fun _ h => by cases h; exact ⟨(fun _ z => by cases z), (fun _ z => by cases z)⟩
section
variable {W : Wd} {G H : Hp} {e : Ev} {p : Pen} {σ : L2.St}
theorem R.getIns (r : R W G e p σ H) {i : Nat} {c : Str} {gs : List (Str × D)} (h : e[i]? = some (some (.ins c gs))) :
    ∃ a C dx fs, a = W.sf ∧ σ[i]? = some (some (.ref a)) ∧ W.mg c = some (.ref C) ∧ H a = some (.ins C dx fs) ∧ fs.map (·.1) = gs.map (·.1) ∧ Reps W.K W.mg W.pa G (fs.map (·.2)) (gs.map (·.2)) ∧ G a = none ∧ W.B a = none ∧ a ≠ W.pa ∧
      (∀ fs' gs', fs'.map (·.1) = gs'.map (·.1) → Reps W.K W.mg W.pa G (fs'.map (·.2)) (gs'.map (·.2)) → R W G (e.set i (some (.ins c gs'))) p σ (upd H a (.ins C dx fs'))) ∧
      R W (upd G a (.ins C dx fs)) (e.set i (some (.v (.obj c gs)))) p σ H := by
  obtain ⟨fps, h1, h2, h3⟩ := r.sls
  obtain ⟨s, fp, q1, q2, q3⟩ := h1.get h
  cases q3 with
  | ins hm ha hk hr =>
    rename_i C dx fs
    have hmm : W.sf ∈ fps.flatten := List.mem_flatten.mpr ⟨[W.sf], List.mem_of_getElem? q2, by simp⟩
    obtain ⟨g1, g2, g3⟩ := h3 _ hmm
    refine ⟨W.sf, C, dx, fs, rfl, q1, hm, ha, hk, hr, g1, g2, g3, fun fs' gs' hk' hr' => ?_, ?_⟩
    · refine R.reslot h1 h2 h3 q1 q2 (r.base.write g1 g2 g3 (by rw [ha]; exact soft_ins)) (Sub.refl G) (fp' := [W.sf]) (.ins hm upd_same hk' hr') (fun b hb nb o ho => ?_) (fun b hb _ => (h3 b hb).1) (by simp) (fun b hb => ?_)
      · rw [upd_ne (fun z => nb (by rw [z]; simp))]
        exact ho
      · obtain rfl := List.mem_singleton.mp hb
        exact ⟨.inl (by simp), g1, g2, g3⟩
    · refine R.reslot h1 h2 h3 q1 q2 (r.base.still ha g1 g2 g3) (Sub.new g1) (fp' := []) (.val (.obj hm upd_same hk (hr.mono (Sub.new g1)))) (fun b hb nb o ho => ho) (fun b hb nb => ?_) (by simp) (fun b hb => by cases hb)
      rw [upd_ne (fun z => nb (by rw [z]; simp))]
      exact (h3 b hb).1
end
structure CT (K : PySem.W.Frag) (mg : Str → Option Value) (c : Str) (C : Addr) (fs : List Str) : Prop where
  gC : mg c = some (.ref C)
  cl : Cls K C
  no : ∀ f ∈ fs, NoAttr K C f
  ha : PySem.W.findIn K (.ref C) "__class__" = some (some (.builtin "object.__class__"))
  hm : PySem.W.mroIn K C (.type "object") = some true
def tyNs : List String := ["NoneType", "bool", "int", "str", "tuple", "list"]
abbrev Cs := List (Str × List Str)
structure CTs (K : PySem.W.Frag) (mg : Str → Option Value) (cs : Cs) : Prop where
  ct : ∀ q ∈ cs, ∃ C, CT K mg q.1 C q.2
  hn : PySem.W.specialIn K (.builtin "object.__class__") "__get__" = some (some (.builtin "getset_descriptor.__get__"))
  htk : PySem.W.takesIn K (.builtin "object.__class__") = some true
  isi : ∀ q ∈ cs, ∀ q' ∈ cs, ∀ A B, mg q.1 = some (.ref A) → mg q'.1 = some (.ref B) → PySem.W.kitOne K (.ref A) (.ref B) = some (q.1 == q'.1) ∧ PySem.W.notFirst K B (.ref A) = true
  ty : ∀ q ∈ cs, ∀ B, mg q.1 = some (.ref B) → ∀ T ∈ tyNs, PySem.W.kitOne K (.type T) (.ref B) = some false ∧ PySem.W.notFirst K B (.type T) = true
theorem CTs.at_ {K : PySem.W.Frag} {mg : Str → Option Value} {cs : Cs} (T : CTs K mg cs) {c : Str} {fs : List Str} {C : Addr} (h : (c, fs) ∈ cs) (hc : mg c = some (.ref C)) : CT K mg c C fs := by
  obtain ⟨C', t⟩ := T.ct _ h
  have e := t.gC
  dsimp only at e
  rw [hc] at e
  cases e
  exact t
theorem tyN_mem {d : D} {T : String} (h : tyN d = some T) : T ∈ tyNs := by
  cases d <;> cases h <;> simp [tyNs]
theorem lookup_reps {K : PySem.W.Frag} {mg : Str → Option Value} {pa : Addr} {G : Hp} {f : Str} : ∀ {fs : List (Str × V)} {gs : List (Str × D)} {d : D}, fs.map (·.1) = gs.map (·.1) → Reps K mg pa G (fs.map (·.2)) (gs.map (·.2)) → gs.lookup f = some d → ∃ v, fs.lookup f = some v ∧ Rep K mg pa G v d
  | [], [], _, _, _, h => by simp at h
  | [], _ :: _, _, h, _, _ => by simp at h
  | _ :: _, [], _, h, _, _ => by simp at h
  | (x, v) :: fs, (y, u) :: gs, d, hk, hr, h => by
    simp only [List.map_cons, List.cons.injEq] at hk
    obtain ⟨rfl, hk⟩ := hk
    cases hr with
    | cons h1 h2 =>
      by_cases z : f = x
      · subst z
        rw [List.lookup_cons_self] at h ⊢
        cases h
        exact ⟨v, rfl, h1⟩
      · have zb : (f == x) = false := by simpa using z
        rw [List.lookup_cons, zb] at h ⊢
        exact lookup_reps hk h2 h
theorem Rep.obj_at {W : Wd} {G H : Hp} {v : V} {c : Str} {gs : List (Str × D)} (s : Sub G H) (h : RepW W G v (.obj c gs)) : ∃ C a dx fs, v = .ref a ∧ W.mg c = some (.ref C) ∧ H a = some (.ins C dx fs) ∧ fs.map (·.1) = gs.map (·.1) ∧ RepsW W G (fs.map (·.2)) (gs.map (·.2)) := by
  cases h with
  | obj hm ha hk hr => exact ⟨_, _, _, _, rfl, hm, s _ _ ha, hk, hr⟩
theorem obj_tyx {K : PySem.W.Frag} {mg : Str → Option Value} {cs : Cs} {H : Hp} {c : Str} {fl : List Str} {C a dx : Addr} {fs : List (Str × V)} (T : CTs K mg cs) (hc : (c, fl) ∈ cs) (hm : mg c = some (.ref C)) (ha : H a = some (.ins C dx fs)) : TyX K H (.ref a) (.ref C) :=
  .base (.ins ha (T.at_ hc hm).cl (T.at_ hc hm).ha T.hn T.htk (T.at_ hc hm).hm)
section
variable {X : Cx} {WW : WX} {a b : Expr} {es : List Expr} {pos : Pos} {fa fb : EM} {fs : AM}
def fldD (cs : Cs) (f : Str) (d : D) : Option D := match d with
  | .obj c gs => match cs.lookup c with
    | some fl => if fl.contains f = true then gs.lookup f else none
    | none => none
  | _ => none
theorem lookup_mem {cs : Cs} {c : Str} {fl : List Str} (h : cs.lookup c = some fl) : (c, fl) ∈ cs := PySem.mem_of_lookup h
theorem de_fld {cs : Cs} {f : Str} (T : CTs X.K X.mg cs) (ha : DE X WW a fa) (hb : attributeBase a f X.env (eval a X.env) = eval a X.env := by rfl) : DE X WW (.Attribute a f pos) (eUn (fldD cs f) fa) :=
  PEw (pe_fld ha hb) fun σ H Q q => (ee_w q).imp fun v H1 ⟨w, G, d, e, p, r, hv, q1⟩ => by
    cases hz : fldD cs f d with
    | none => rw [hz] at q1; exact q1.elim
    | some dz =>
      rw [hz] at q1
      unfold fldD at hz
      split at hz
      · rename_i c gs
        split at hz
        · rename_i fl hl
          split at hz
          · rename_i hf
            obtain ⟨C, a, dx, fs, rfl, hm, hA, hk, hr⟩ := Rep.obj_at r.sub hv
            obtain ⟨u, hu, ru⟩ := lookup_reps hk hr hz
            have t := T.at_ (lookup_mem hl) hm
            exact ⟨a, C, dx, fs, u, rfl, hA, t.cl, t.no f (by simpa using hf), hu, q1 G u H1 (Sub.refl _) r ru⟩
          · cases hz
        · cases hz
      · cases hz
def eFldS (i : Nat) (cs : Cs) (f : Str) : EM := fun e p => match e[i]? with
  | some (some (.ins c gs)) => optR (fldD cs f (.obj c gs)) e p
  | _ => .bad
theorem de_fldS {cs : Cs} {f x : Str} {xp : Pos} (i : Nat) (T : CTs X.K X.mg cs) (hN : X.N[i]? = some x := by rfl) (hv : Vis X.env.scope x := by first | exact Or.inl rfl | exact Or.inr (Or.inl rfl) | exact Or.inr (Or.inr rfl))
    (hd : (x == ("__debug__" : Str)) = false := by decide) (hcd : (x == ("__classdict__" : Str)) = false := by decide)
    (hb : attributeBase (.Name x xp) f X.env (eval (.Name x xp) X.env) = eval (.Name x xp) X.env := by rfl) : DE X WW (.Attribute (.Name x xp) f pos) (eFldS i cs f) :=
  PEw (pe_fld (pe_var hN hv hd hcd) hb) fun σ H Q ⟨w, G, e, p, r, q⟩ => by
    unfold eFldS at q
    split at q
    · rename_i c gs hx
      obtain ⟨a, C, dx, fs, _, h1, hm, hA, hk, hr, g1, g2, g3, _, _⟩ := r.getIns hx
      cases hz : fldD cs f (.obj c gs) with
      | none => rw [hz] at q; exact q.elim
      | some dz =>
        rw [hz] at q
        simp only [fldD] at hz
        split at hz
        · rename_i fl hl
          split at hz
          · rename_i hf
            obtain ⟨u, hu, ru⟩ := lookup_reps hk hr hz
            have t := T.at_ (lookup_mem hl) hm
            exact ⟨.ref a, h1, a, C, dx, fs, u, rfl, hA, t.cl, t.no f (by simpa using hf), hu, q G u H (Sub.refl _) r ru⟩
          · cases hz
        · cases hz
    · exact q.elim
def putD (f : Str) (v : D) : List (Str × D) → List (Str × D)
  | [] => [(f, v)]
  | (g, x) :: r => if g = f then (g, v) :: r else (g, x) :: putD f v r
theorem put_reps {K : PySem.W.Frag} {mg : Str → Option Value} {pa : Addr} {G : Hp} {f : Str} {v : V} {d : D} (hv : Rep K mg pa G v d) : ∀ {fs : List (Str × V)} {gs : List (Str × D)}, fs.map (·.1) = gs.map (·.1) → Reps K mg pa G (fs.map (·.2)) (gs.map (·.2)) →
    (putF f v fs).map (·.1) = (putD f d gs).map (·.1) ∧ Reps K mg pa G ((putF f v fs).map (·.2)) ((putD f d gs).map (·.2))
  | [], [], _, _ => ⟨rfl, .cons hv .nil⟩
  | [], _ :: _, h, _ => by simp at h
  | _ :: _, [], h, _ => by simp at h
  | (x, u) :: fs, (y, t) :: gs, hk, hr => by
    simp only [List.map_cons, List.cons.injEq] at hk
    obtain ⟨rfl, hk⟩ := hk
    cases hr with
    | cons h1 h2 =>
      unfold putF putD
      by_cases z : x = f
      · rw [if_pos z, if_pos z]
        exact ⟨by simp [hk], .cons hv h2⟩
      · rw [if_neg z, if_neg z]
        obtain ⟨k1, k2⟩ := put_reps hv hk h2
        exact ⟨by simp [k1], .cons h1 k2⟩
def sFldS (i : Nat) (cs : Cs) (f : Str) (fa : EM) : SM := fun e p => toS (fa e p) fun d e p => match e[i]? with
  | some (some (.ins c gs)) => (match cs.lookup c with
    | some fl => if fl.contains f = true ∧ gs.length < 900 then .nx (e.set i (some (.ins c (putD f d gs)))) p else .bad
    | none => .bad)
  | _ => .bad
theorem ds_fldS {cs : Cs} {f x : Str} {xp pos' : Pos} {i : Nat} (T : CTs X.K X.mg cs) (ha : DE X WW a fa) (hN : X.N[i]? = some x := by rfl) (hv : Vis X.env.scope x := by first | exact Or.inl rfl | exact Or.inr (Or.inl rfl) | exact Or.inr (Or.inr rfl))
    (hd : (x == ("__debug__" : Str)) = false := by decide) (hcd : (x == ("__classdict__" : Str)) = false := by decide)
    (hs : swapsWith a (some (.Attribute (.Name x xp) f pos')) pos.line X.env = pure false := by rfl) : DS X WW (.Assign [.Attribute (.Name x xp) f pos'] a pos) (sFldS i cs f fa) :=
  PSw (ps_fld (pe_var hN hv hd hcd) ha hs) fun D σ H q => (es_w q).imp fun v H1 ⟨w, G, d, e, p, r, hv, q1⟩ => by
    split at q1
    · rename_i c gs hx
      split at q1
      · rename_i fl hl
        split at q1
        · rename_i hf
          obtain ⟨a, C, dx, fs, _, h1, hm, hA, hk, hr, g1, g2, g3, k, _⟩ := r.getIns hx
          have t := T.at_ (lookup_mem hl) hm
          obtain ⟨z1, z2⟩ := put_reps hv hk hr
          have hlen : fs.length = gs.length := by simpa using congrArg List.length hk
          exact ⟨.ref a, h1, a, C, dx, fs, rfl, hA, t.cl, t.no f (by simpa using hf.1), by omega, q1 G σ _ (Sub.refl _) (k _ _ z1 z2)⟩
        · exact q1.elim
      · exact q1.elim
    · exact q1.elim
def isiC (cs : Cs) (c : Str) (d : D) : Option D := match d with
  | .obj c' _ => (cs.lookup c').map fun _ => .bl (c' == c)
  | d => (tyN d).map fun _ => .bl false
theorem de_isiC {cs : Cs} {c x : Str} {fl : List Str} {p q : Pos} (T : CTs X.K X.mg cs) (hc : cs.lookup c = some fl) (hg : Gl X x) (hm : X.mg x = none) (hv : bootBuiltins x = some (.builtin "isinstance")) (hgC : Gl X c) (ha : DQ X WW a fa)
    (hn : x ≠ "__name__" := by decide) (hd : (x == ("__debug__" : Str)) = false := by decide) (hdC : (c == ("__debug__" : Str)) = false := by decide) (hs : starEach (a :: [.Name c q]) X.env = (false, eval a X.env) :: starEach [.Name c q] X.env := by rfl) :
    DE X WW (.Call (.Name x p) [a, .Name c q] [] pos) (eUn (isiC cs c) fa) := by
  obtain ⟨B, tB⟩ := T.ct _ (lookup_mem hc)
  have gB := tB.gC
  dsimp only at gB
  exact PEw (pe_callB call_isi hg hm hv (pa_cons ha (pa_cons (pe_glob (v := .ref B) hgC gB rfl hdC) pa_nil) hs) (hn := hn) (hdb := hd) (he := hs)) fun σ H Q q => (eq_w q).imp fun v H1 ⟨w, G, d, e, p, r, hv, q1⟩ => by
    cases hz : isiC cs c d with
    | none => rw [hz] at q1; exact q1.elim
    | some dz =>
      rw [hz] at q1
      unfold isiC at hz
      split at hz
      · rename_i c' gs
        cases hl : cs.lookup c' with
        | none => rw [hl] at hz; cases hz
        | some fl' =>
          rw [hl] at hz
          cases hz
          rcases hv with hv | ⟨_, _, _, _, z, _⟩
          · obtain ⟨C, a, dx, fs, rfl, hmC, hA, hk, hr⟩ := Rep.obj_at r.sub hv
            exact ⟨.ref a, .ref B, .ref C, .ref B, _, rfl, .own B, obj_tyx T (lookup_mem hl) hmC hA, (T.isi _ (lookup_mem hl) _ (lookup_mem hc) C B hmC gB).1, q1 G _ H1 (Sub.refl _) r (.bl _)⟩
          · cases z
      · cases ht : tyN d with
        | none => rw [ht] at hz; cases hz
        | some N =>
          rw [ht] at hz
          cases hz
          exact ⟨v, .ref B, .type N, .ref B, false, rfl, .own B, RepQ.ty (w := w) r.sub hv ht, (T.ty _ (lookup_mem hc) B gB N (tyN_mem ht)).1, q1 G _ H1 (Sub.refl _) r (.bl _)⟩
end
end Pd

namespace PdNe
open PySem PySem.Spec PyProof.Rows PySem.SeqAt
section
variable {prog : Program} {w : World} {A : Around} {E : Value → Shared → Prop} {s : Shared} {K : PySem.W.Frag} {x C f : Addr} {ox : Obj} {od : Option Obj} {b tb : Value}
theorem entry_ne {Q : Fin → Shared → Prop} (X : K.In s.heap) (I : PySem.W.InstAt s.heap x ox C od) (hs : PySem.W.findIn K (.ref C) "__eq__" = some (some (.ref f))) (hf : PySem.W.isFn K (.ref f) = true) (hu : A.units < cLine)
    (hcall : wpAny (model prog w) A (call (.ref f) [.ref x, b]) (fun v s' => ∃ k, v = .bool k ∧ Q (.done (.ret (.bool (!k)))) s') E s) :
    wpAny (model prog w) A (Builtin.«object.__ne__» ⟨[.ref x, b], []⟩) Q E s := by
  unfold Builtin.«object.__ne__»
  repeat (first
    | with_reducible refine wpAny_cRoomFor hu ?_
    | (refine wpAny_bind (m := callSpecialIfBound? (.ref x) (Str.ofString "__eq__") [b])
        (PySem.W.ifBound_K X I hs hf (wpAny_mono hcall (fun r s' hr => by
          obtain ⟨k, rfl, hq⟩ := hr
          repeat (first | exact hq | exact wpAny_pure hq | exact wpAny_truthy_bool hq | (refine wpAny_bind (m := truthy (.bool _)) (wpAny_truthy_bool ?_)) | wp_step)) fun _ _ e => e)))
    | wp_step)
theorem ifBound_objNe {M : Model} {args : List Value} {Q : Option Value → Shared → Prop} (X : K.In s.heap) (I : PySem.W.InstAt s.heap x ox C od) (hn : PySem.W.findIn K (.ref C) "__ne__" = some (some (.builtin "object.__ne__")))
    (h : wpAny M A (call (.builtin "object.__ne__") (.ref x :: args)) (fun v => Q (some v)) E s) : wpAny M A (callSpecialIfBound? (.ref x) "__ne__" args) Q E s := by
  simp only [callSpecialIfBound?, bindSpecialIfBound?]
  refine wpAny_holding (wpAny_bind (wpAny_bind (wpAny_bind (I.type.here ((PySem.W.looks_findIn X hn).here ?_)))))
  refine wpAny_bind (wpAny_askSetting (wpAny_ite ?_))
  have fin : wpAny M A (call (.builtin "object.__ne__") ([.ref x] ++ args) >>= fun v => pure (some v)) Q E s := wpAny_bind (wpAny_mono h (fun v s' h' => wpAny_pure h') fun _ _ h' => h')
  split
  · exact wpAny_bind (wpAny_of_eq (F.cmp_object.ne.bind _) (wpAny_pure (by exact fin)))
  · exact wpAny_tryCatch (wpAny_bind (wpAny_of_eq (F.cmp_object.ne.bind _) (wpAny_pure (by exact fin))))
theorem try_ne {Q : Option Value → Shared → Prop} (X : K.In s.heap) (I : PySem.W.InstAt s.heap x ox C od) (hs : PySem.W.findIn K (.ref C) "__eq__" = some (some (.ref f))) (hf : PySem.W.isFn K (.ref f) = true)
    (hn : PySem.W.findIn K (.ref C) "__ne__" = some (some (.builtin "object.__ne__"))) (hm : PySem.W.mroIn K C (.type "object") = some true) (hu : A.units + 1 < cLine)
    (hcall : wpAny (model prog w) A.in1 (call (.ref f) [.ref x, b]) (fun v s' => ∃ k, v = .bool k ∧ Q (some (.bool (!k))) s') E s) : wpAny (model prog w) A (tryCompare (.ref x) "__ne__" b) Q E s := by
  unfold tryCompare
  refine wpAny_bind (ifBound_objNe X I hn (wpAny_call (codeAny_call_builtin F.cmp_object.ne.plain F.cmpEntry_ne
    (PySem.W.check_slot F.cmpKind_ne F.cmpSplit_ne (I.type.andThen (PySem.W.looks_mroIn X hm)) (F.cmpArgs_ne _ _) (entry_ne X I hs hf hu (wpAny_mono hcall (fun v s' hv => ?_) fun _ _ e => e))))))
  obtain ⟨k, rfl, hq⟩ := hv
  exact ⟨k, rfl, wpAny_pure hq⟩
theorem ne_K {Q : Value → Shared → Prop} (hu : A.units + 1 < cLine) (X : K.In s.heap) (I : PySem.W.InstAt s.heap x ox C od) (hb : PySem.W.Looks (model prog w) s.heap (typeOf b) tb) (hnf : PySem.W.notFirst K C tb = true)
    (hs : PySem.W.findIn K (.ref C) "__eq__" = some (some (.ref f))) (hf : PySem.W.isFn K (.ref f) = true) (hn : PySem.W.findIn K (.ref C) "__ne__" = some (some (.builtin "object.__ne__"))) (hm : PySem.W.mroIn K C (.type "object") = some true)
    (h : wpAny (model prog w) A.in1 (call (.ref f) [.ref x, b]) (fun v s' => ∃ k, v = .bool k ∧ Q (.bool (!k)) s') E s) : wpAny (model prog w) A (richCompare .NotEq (.ref x) b) Q E s := by
  have one : wpAny (model prog w) A (tryCompare (.ref x) "__ne__" b) (fun r s' => ∃ v, r = some v ∧ Q v s') E s :=
    try_ne X I hs hf hn hm hu (wpAny_mono h (fun v s' ⟨k, e, q⟩ => ⟨k, e, _, rfl, q⟩) fun _ _ e => e)
  unfold richCompare
  simp only [oneThing_ref]
  refine wpAny_holding (wpAny_bind (wpAny_cRoomFor (Nat.lt_of_succ_lt hu) ?_))
  refine wpAny_bind (I.type.here (wpAny_bind (hb.here ?_)))
  split
  · rename_i q
    have e : PySem.W.subIn K tb (.ref C) = some false := by
      rcases Bool.or_eq_true_iff.mp hnf with e | e
      · rw [beq_iff_eq.mp e] at q; simp at q
      · exact beq_iff_eq.mp e
    refine wpAny_bind ((PySem.W.looks_subIn X e).here ?_)
    simp only [Bool.false_eq_true, if_false]
    refine wpAny_bind (wpAny_mono one (fun r s' z => ?_) fun _ _ e => e)
    obtain ⟨v, rfl, hq⟩ := z
    exact wpAny_pure hq
  · refine wpAny_bind (wpAny_pure ?_)
    simp only [Bool.false_eq_true, if_false]
    refine wpAny_bind (wpAny_mono one (fun r s' z => ?_) fun _ _ e => e)
    obtain ⟨v, rfl, hq⟩ := z
    exact wpAny_pure hq
end
end PdNe

namespace Pd
open PySem PySem.Spec PyProof.Rows L2
structure EqM (P : Program) (w : World) (K : PySem.W.Frag) (mg : Str → Option Value) (base : Heap) (k : Nat) (c : Str) (F : Fn) : Prop where
  ex : ∃ C f fd ps, mg c = some (.ref C) ∧ PySem.W.findIn K (.ref C) "__eq__" = some (some (.ref f)) ∧ PySem.W.isFn K (.ref f) = true ∧ PySem.W.findIn K (.ref C) "__ne__" = some (some (.builtin "object.__ne__")) ∧ PySem.W.mroIn K C (.type "object") = some true ∧
    ps.length = 2 ∧ FnOk P w K mg base (L2.CX P w) k f fd ps (spF K mg 2 F) ∧ Binds K fd ps []
def E0 : XK := fun _ _ _ => False
section
variable {X : Cx} {WW : WX} {a b : Expr} {pos : Pos} {fa fb : EM} {k : Nat}
def rCmpO (X : Cx) (k : Nat) (neg : Bool) : R2 := fun x y H Q => ∃ c F C a dx fs t, EqM X.prog X.w X.K X.mg X.base k c F ∧ X.mg c = some (.ref C) ∧ x = .ref a ∧ H a = some (.ins C dx fs) ∧ TyX X.K H y t ∧ PySem.W.notFirst X.K C t = true ∧
  spF X.K X.mg 2 F [x, y] H (fun v H' => ∃ b, v = .bl b ∧ Q (.bl (b != neg)) H') E0
theorem passE0 : Passes (L2.CX X.prog X.w) X E0 := fun pins σ H s e s' I c => passes_call (X := X) LamX.takes0 (fun _ _ _ _ z => z) pins σ H s e s' I c
theorem run_in {pins : List (Addr × Obj)} {σ : L2.St} {H : Hp} {s : Shared} {Q : VK} {A : Around} {f : Addr} {fd : FuncData} {ps : List Str} {sp : Sp} {us : List Value} {vs : List V} (F : FnOk X.prog X.w X.K X.mg X.base (L2.CX X.prog X.w) k f fd ps sp) (hr : Room k A) (hA : Env0 X.prog X.w X.K X.mg X.base A X.stack s H)
    (hb : Binds X.K fd ps []) (I : Inv X pins σ H s) (r : Vals vs us) (h : sp vs H Q E0) : wpAny (model X.prog X.w) A (call (.ref f) us) (EP X pins σ Q) X.xe s := by
  have hl : us.length = ps.length := by rw [← r.length]; exact F.len _ _ _ _ h
  have b := hb s us I.kIn (by rw [List.append_nil]; exact hl)
  rw [List.append_nil] at b
  refine wpAny_call (codeAny_mono (F.run A X.stack s H ⟨us, []⟩ us vs Q E0 hr hA b r h) fun r s' hq => ?_)
  cases r with
  | error e => exact passE0 pins σ H s e s' I hq
  | ok fl =>
    cases fl with
    | ret u => exact I.after hq
    | next => exact False.elim hq
    | brk => exact False.elim hq
    | cont => exact False.elim hq
theorem op_eqC (hr : Room k X.A) : OpR X (compareOp .Eq) (rCmpO X k false) := by
  intro pins s σ H x y v u Q I rx ry hq
  obtain ⟨c, F, C, a, dx, fs, t, ⟨C', f, fd, ps, hm, he, hf, _, _, _, hF, hb⟩, hmC, rfl, hA, ty, hn, hsp⟩ := hq
  rw [hmC] at hm
  cases hm
  cases rx
  obtain ⟨mA, J, _⟩ := ins_get I.hok hA
  obtain ⟨od, J, _⟩ := J.look
  obtain ⟨m, hFr⟩ := I.fr
  obtain ⟨P, Z, hp, _⟩ := kit_of I ry ty
  show wpAny (model X.prog X.w) X.A (richCompare .Eq (.ref a) u) (EP X pins σ Q) X.xe s
  refine PySem.W.cmp_K (op := .Eq) (tb := t) hr.units0 hFr I.ok.mod.kin J (Z.ty _ _ I.kIn hp) hn he hf ?_
  refine wpAny_mono (run_in (vs := [.ref a, y]) hF hr I.env0 hb I (.cons rfl (.cons ry .nil)) hsp) (fun r s' z => ?_) fun _ _ x => x
  obtain ⟨v', H', I', rv, b, rfl, q⟩ := z
  cases rv
  exact ⟨.bl (b != false), H', I', by cases b <;> rfl, q⟩
theorem op_neC (hr : Room (k + 1) X.A) : OpR X (compareOp .NotEq) (rCmpO X k true) := by
  intro pins s σ H x y v u Q I rx ry hq
  obtain ⟨c, F, C, a, dx, fs, t, ⟨C', f, fd, ps, hm, he, hf, hne, hmo, _, hF, hb⟩, hmC, rfl, hA, ty, hn, hsp⟩ := hq
  rw [hmC] at hm
  cases hm
  cases rx
  obtain ⟨mA, J, _⟩ := ins_get I.hok hA
  obtain ⟨od, J, _⟩ := J.look
  obtain ⟨P, Z, hp, _⟩ := kit_of I ry ty
  show wpAny (model X.prog X.w) X.A (richCompare .NotEq (.ref a) u) (EP X pins σ Q) X.xe s
  refine PdNe.ne_K (tb := t) (by have := hr.un; omega) I.kIn J (Z.ty _ _ I.kIn hp) hn he hf hne hmo ?_
  refine wpAny_mono (run_in (vs := [.ref a, y]) hF hr.in1 I.env0.in1 hb I (.cons rfl (.cons ry .nil)) hsp) (fun r s' z => ?_) fun _ _ x => x
  obtain ⟨v', H', I', rv, b, rfl, q⟩ := z
  cases rv
  exact ⟨b, rfl, .bl (b != true), H', I', by cases b <;> rfl, q⟩
def tyOk (cs : Cs) (d : D) : Bool := match d with
  | .obj c _ => (cs.lookup c).isSome
  | d => (tyN d).isSome
def cmpO (cs : Cs) (T : List (Str × Fn)) (neg : Bool) (x y : D) (e : Ev) (p : Pen) : Res D := match x with
  | .obj c gs => if tyOk cs y = true then (match T.lookup c with
    | some F => (match F [.obj c gs, y] p with
      | .ok (.bl b) p' => .ok (.bl (b != neg)) e p'
      | _ => .bad)
    | none => .bad) else .bad
  | x => optR (if neg = true then neD x y else eqD x y) e p
def eCmpO (cs : Cs) (T : List (Str × Fn)) (neg : Bool) (fa fb : EM) : EM := fun e p => (fa e p).bind fun x e p => (fb e p).bind fun y e p => cmpO cs T neg x y e p
def rPl (K : PySem.W.Frag) (neg : Bool) : R2 := if neg = true then rNeD K else rEqD K
theorem eq_w0 {w : Wl} {G H : Hp} {e : Ev} {p : Pen} {σ : L2.St} {cs : Cs} {T : List (Str × Fn)} {neg : Bool} {x y : V} {dx dy : D} {Q : VK} (Ts : CTs X.K X.mg cs) (hT : ∀ q ∈ T, EqM X.prog X.w X.K X.mg X.base k q.1 q.2 ∧ ∃ fl, (q.1, fl) ∈ cs)
    (r : R (wd X w) G e p σ H) (hx : RepW (wd X w) G x dx) (hy : RepW (wd X w) G y dy) (q : Post (rpE (wd X w)) (wd X w) WW σ Q G (cmpO cs T neg dx dy e p)) : rCmpO X k neg x y H Q ∨ rPl X.K neg x y H Q := by
  have plain : ∀ {u : Res D}, u = optR (if neg = true then neD dx dy else eqD dx dy) e p → Post (rpE (wd X w)) (wd X w) WW σ Q G u → rPl X.K neg x y H Q := fun {u} eu q => by
    subst eu
    cases neg with
    | true =>
      simp only [if_true] at q
      cases hz : neD dx dy with
      | none => rw [hz] at q; exact q.elim
      | some dz =>
        rw [hz] at q
        show rNeD X.K x y H Q
        refine l_ne w G H x y dx dy dz Q r.sub r.base.pen.1 hx (.inl hy) hz fun G5 H5 v al hv => ?_
        obtain ⟨R5, s5⟩ := r.alloc' al
        exact q G5 v H5 s5 R5 hv
    | false =>
      simp only [Bool.false_eq_true, if_false] at q
      cases hz : eqD dx dy with
      | none => rw [hz] at q; exact q.elim
      | some dz =>
        rw [hz] at q
        show rEqD X.K x y H Q
        refine l_eq w G H x y dx dy dz Q r.sub r.base.pen.1 hx (.inl hy) hz fun G5 H5 v al hv => ?_
        obtain ⟨R5, s5⟩ := r.alloc' al
        exact q G5 v H5 s5 R5 hv
  unfold cmpO at q
  split at q
  · rename_i c gs
    split at q
    · rename_i hty
      split at q
      · rename_i F hF
        have hm := PySem.mem_of_lookup hF
        obtain ⟨hE, fl, hfl⟩ := hT _ hm
        obtain ⟨C, a, dx', fs, rfl, hmC, hA, hk, hr⟩ := Rep.obj_at r.sub hx
        refine .inl ?_
        obtain ⟨t, ty, nf⟩ : ∃ t, TyX X.K H y t ∧ PySem.W.notFirst X.K C t = true := by
          unfold tyOk at hty
          split at hty
          · rename_i c' gs'
            obtain ⟨fl', hl'⟩ := Option.isSome_iff_exists.mp hty
            obtain ⟨C', a', dx2, fs2, rfl, hmC', hA', _, _⟩ := Rep.obj_at r.sub hy
            exact ⟨.ref C', obj_tyx Ts (lookup_mem hl') hmC' hA', (Ts.isi _ (lookup_mem hl') _ hfl C' C hmC' hmC).2⟩
          · obtain ⟨N, hN⟩ := Option.isSome_iff_exists.mp hty
            exact ⟨.type N, RepQ.ty (w := w) r.sub (.inl hy) hN, (Ts.ty _ hfl C hmC N (tyN_mem hN)).2⟩
        refine ⟨c, F, C, a, dx', fs, t, hE, hmC, rfl, hA, ty, nf, rfl, w.pa, G, p, [.obj c gs, dy], r.sub, r.base.pen, r.base.gt, r.base.tab, .cons hx (.cons hy .nil), ?_⟩
        split at q
        · rename_i b p' hb
          rw [hb]
          intro G' v H' bs hv
          cases hv
          obtain ⟨r', s⟩ := r.after bs
          exact ⟨b, rfl, q G' _ H' s r' (.bl _)⟩
        · exact q.elim
      · exact q.elim
    · exact q.elim
  · exact .inr (plain rfl q)
theorem cmpo_w {cs : Cs} {T : List (Str × Fn)} {neg : Bool} (Ts : CTs X.K X.mg cs) (hT : ∀ q ∈ T, EqM X.prog X.w X.K X.mg X.base k q.1 q.2 ∧ ∃ fl, (q.1, fl) ∈ cs) (σ : L2.St) (H : Hp) (Q : VK) (h : tE X WW (eCmpO cs T neg fa fb) σ H Q) :
    tOp (fun x y H Q => rCmpO X k neg x y H Q ∨ rPl X.K neg x y H Q) (tE X WW fa) (tE X WW fb) σ H Q := by
  obtain ⟨w, G, e, p, r0, q⟩ := h
  refine ⟨w, G, e, p, r0, ?_⟩
  have q1 := Post.bind (RP := rpE (wd X w)) q
  generalize fa e p = ra at q1 ⊢
  cases ra with
  | bad => exact q1
  | exc x e1 p1 => exact q1
  | ok dx e1 p1 =>
    intro G1 x H1 s1 R1 hx
    obtain ⟨G2, d2, e2, p2, s2, R2, hx2, q2⟩ := q1 G1 x H1 s1 R1 hx
    refine ⟨w, G2, e2, p2, R2, ?_⟩
    have q3 := Post.bind (RP := rpE (wd X w)) q2
    generalize fb e2 p2 = rb at q3 ⊢
    cases rb with
    | bad => exact q3
    | exc x e1 p1 => exact q3
    | ok dy e3 p3 =>
      intro G3 y H3 s3 R3 hy
      obtain ⟨G4, d4, e4, p4, s4, R4, hy4, q4⟩ := q3 G3 y H3 s3 R3 hy
      exact eq_w0 (WW := WW) Ts hT R4 (hx2.mono s4) hy4 q4
theorem de_eqO {cs : Cs} {T : List (Str × Fn)} (hu : X.A.units + 65 < cLine) (hr : Room (k + 1) X.A) (Ts : CTs X.K X.mg cs) (hT : ∀ q ∈ T, EqM X.prog X.w X.K X.mg X.base k q.1 q.2 ∧ ∃ fl, (q.1, fl) ∈ cs) (ha : DE X WW a fa) (hb : DE X WW b fb) (hm : behindInMarks .Eq b = false := by rfl) :
    DE X WW (.Compare a [.Eq] [b] pos) (eCmpO cs T false fa fb) := PEw (pe_cmpR (OpR.or (op_eqC (hr.mono (Nat.le_succ k))) (op_eqD (by omega))) ha hb hm) (cmpo_w Ts hT)
theorem de_neO {cs : Cs} {T : List (Str × Fn)} (hu : X.A.units + 65 < cLine) (hr : Room (k + 1) X.A) (Ts : CTs X.K X.mg cs) (hT : ∀ q ∈ T, EqM X.prog X.w X.K X.mg X.base k q.1 q.2 ∧ ∃ fl, (q.1, fl) ∈ cs) (ha : DE X WW a fa) (hb : DE X WW b fb) (hm : behindInMarks .NotEq b = false := by rfl) :
    DE X WW (.Compare a [.NotEq] [b] pos) (eCmpO cs T true fa fb) := PEw (pe_cmpR (OpR.or (op_neC hr) (op_neD (by omega))) ha hb hm) (cmpo_w Ts hT)
theorem dt_eqO {cs : Cs} {T : List (Str × Fn)} (hu : X.A.units + 65 < cLine) (hr : Room (k + 1) X.A) (Ts : CTs X.K X.mg cs) (hT : ∀ q ∈ T, EqM X.prog X.w X.K X.mg X.base k q.1 q.2 ∧ ∃ fl, (q.1, fl) ∈ cs) (ha : DE X WW a fa) (hb : DE X WW b fb) (hm : behindInMarks .Eq b = false := by rfl) :
    DT X WW (.Compare a [.Eq] [b] pos) (tmB (eCmpO cs T false fa fb)) := PTw (pt_cmpR (OpR.or (op_eqC (hr.mono (Nat.le_succ k))) (op_eqD (by omega))) ha hb hm) (tb_w (cmpo_w Ts hT))
theorem dt_neO {cs : Cs} {T : List (Str × Fn)} (hu : X.A.units + 65 < cLine) (hr : Room (k + 1) X.A) (Ts : CTs X.K X.mg cs) (hT : ∀ q ∈ T, EqM X.prog X.w X.K X.mg X.base k q.1 q.2 ∧ ∃ fl, (q.1, fl) ∈ cs) (ha : DE X WW a fa) (hb : DE X WW b fb) (hm : behindInMarks .NotEq b = false := by rfl) :
    DT X WW (.Compare a [.NotEq] [b] pos) (tmB (eCmpO cs T true fa fb)) := PTw (pt_cmpR (OpR.or (op_neC hr) (op_neD (by omega))) ha hb hm) (tb_w (cmpo_w Ts hT))
end
end Pd

namespace Pd
open PySem PySem.Spec PyProof.Rows L2
inductive IR where
  | ok (fs : List (Str × D)) (p : Pen)
  | exc (x : Xn) (p : Pen)
  | bad
abbrev Ini := List D → Pen → IR
def mkI (m : Nat) (c : Str) (sm : SM) : Ini := fun ds p => match sm (some (.ins c []) :: (ds.map (fun d => some (Sl.v d)) ++ List.replicate (m - (ds.length + 1)) none)) p with
  | .nx e p' => (match (e[0]? : Option (Option Sl)) with
    | some (some (.ins c' fs)) => if c' = c then .ok fs p' else .bad
    | _ => .bad)
  | .exc x _ p' => .exc x p'
  | _ => .bad
def hole (a : Addr) (H : Hp) : Hp := fun b => if b = a then none else noTab H b
def spI (K : PySem.W.Frag) (mg : Str → Option Value) (n : Nat) (c : Str) (I : Ini) : Sp := fun vs H Q E => ∃ a us C dx pa G p ds, vs = .ref a :: us ∧ us.length = n ∧ mg c = some (.ref C) ∧ H a = some (.ins C dx []) ∧ G a = none ∧ a ≠ pa ∧
  Sub G H ∧ PenAt pa p G H ∧ (∀ a ps, G a ≠ some (.tbl ps)) ∧ LamX.Tabs tabsT H ∧ Reps K mg pa G us ds ∧
  match I ds p with
  | .ok gs p' => ∀ G' H' dx' fs, Base ⟨K, mg, pa, hole a H, G, a⟩ G' p' H' → G' a = none → H' a = some (.ins C dx' fs) → fs.map (·.1) = gs.map (·.1) → Reps K mg pa G' (fs.map (·.2)) (gs.map (·.2)) → Q .non H'
  | .exc x p' => ∀ G' cls dd H', Base ⟨K, mg, pa, hole a H, G, a⟩ G' p' H' → XRep ⟨K, mg, pa, hole a H, G, a⟩ G' cls dd x → E cls dd H'
  | .bad => False
theorem mkI_pure {X : Cx} {N : List Str} {n : Nat} {c : Str} {sm : SM} {vs : List V} {H : Hp} {Q : VK} {E : XK} (h : spI X.K X.mg n c (mkI N.length c sm) vs H Q E) : tS X (fun cls d _ H => E cls d H) sm { nx := fun _ H' => Q .non H', rt := Q } (L2.start N vs) H := by
  obtain ⟨a, us, C, dx, pa, G, p, ds, rfl, hn, hm, hA, hga, hpa, hs, hp, hg, ht, hv, hF⟩ := h
  have hl := hv.length
  refine ⟨⟨pa, hole a H, G, a⟩, G, some (.ins c []) :: (ds.map (fun d => some (Sl.v d)) ++ List.replicate (N.length - (ds.length + 1)) none), p, ⟨⟨hs, Sub.refl G, fun b h => .inl h, fun b o h _ _ => ?_, hg, fun b ps z => ?_, ht, hp⟩, [a] :: List.replicate (ds.length + (N.length - (ds.length + 1))) [], ?_, ?_, ?_⟩, ?_⟩
  · have h : hole a H b = some o := h
    unfold hole at h
    split at h
    · cases h
    · exact noTab_sub H h
  · have z : hole a H b = some (.tbl ps) := z
    unfold hole at z
    split at z
    · cases z
    · exact noTab_nt H b ps z
  · refine .cons (.ins (W := wd X ⟨pa, hole a H, G, a⟩) hm hA rfl .nil) ?_
    have e : N.length - (us.length + 1) = N.length - (ds.length + 1) := by rw [hl]
    show SlRs _ G H (us.map some ++ List.replicate (N.length - (us.length + 1)) none) _ _
    rw [e]
    exact sls_start _ hv
  · have : (List.replicate (ds.length + (N.length - (ds.length + 1))) ([] : List Addr)).flatten = [] := by simp
    rw [List.flatten_cons, this]
    simp
  · intro b hb
    have : (List.replicate (ds.length + (N.length - (ds.length + 1))) ([] : List Addr)).flatten = [] := by simp
    rw [List.flatten_cons, this] at hb
    have hb : b = a := by simpa using hb
    subst hb
    refine ⟨hga, ?_, hpa⟩
    show hole b H b = none
    unfold hole
    rw [if_pos rfl]
  · unfold mkI at hF
    cases hb : sm (some (.ins c []) :: (ds.map (fun d => some (Sl.v d)) ++ List.replicate (N.length - (ds.length + 1)) none)) p with
    | nx e1 p1 =>
      simp only [hb] at hF
      intro G' σ H' s r
      cases he : e1[0]? with
      | none => simp only [he] at hF
      | some o =>
        cases o with
        | none => simp only [he] at hF
        | some sl =>
          cases sl with
          | ins c' gs =>
            simp only [he] at hF
            by_cases hc : c' = c
            · subst hc
              rw [if_pos rfl] at hF
              obtain ⟨a', C', dx', fs, ha', _, hm', hA', hk, hr, g1, _, _, _, _⟩ := r.getIns he
              have ha' : a' = a := ha'
              have hm' : X.mg c' = some (.ref C') := hm'
              rw [hm] at hm'
              cases hm'
              rw [ha'] at hA' g1
              exact hF G' H' dx' fs r.base g1 hA' hk hr
            · rw [if_neg hc] at hF
              exact hF.elim
          | v d => simp only [he] at hF
          | own d => simp only [he] at hF
          | own2 d => simp only [he] at hF
          | dk d => simp only [he] at hF
          | dt d => simp only [he] at hF
    | rt d e1 p1 => simp only [hb] at hF
    | bk e1 p1 => simp only [hb] at hF
    | ct e1 p1 => simp only [hb] at hF
    | exc x e1 p1 => simp only [hb] at hF; exact fun G' cls dd σ H' s r hx => hF G' cls dd H' r.base hx
    | bad => simp only [hb] at hF
section
variable {P : Program} {w : World} {K : PySem.W.Frag} {mg : Str → Option Value} {base : Heap}
theorem ok_init {x qual c : Str} {params : Arguments} {body : List Stmt} {scope : Scope} {dvs : List V} {f : Addr} {fd : FuncData} {N ps : List Str} {k n : Nat} {sm : SM} (F : FunD K x qual params body scope dvs [] f fd) (S : FnScope N ps scope) (hn : ps.length = n + 1)
    (hbody : ∀ (cdv : Value) (A : Around) (outer : List Env) (s : Shared) (H : Hp) (E : XK), Room k (A.deeper (PyProof.Rows.envOfC qual scope s.heap.objs.size f cdv)) →
      DSs (cxOf (L2.CX P w) P w K mg base N qual scope f cdv A outer s H E) (fun cls d _ H => E cls d H) body sm) : FnOk P w K mg base (L2.CX P w) (k + 1) f fd ps (spI K mg n c (mkI N.length c sm)) := by
  obtain ⟨oc, od, dV, kV, doc, pm, an, cdv, ct, osl, rfl, lk, hcd, _, _⟩ := F.ex
  exact fn_of lk hcd S (fun vs H Q E h => by obtain ⟨a, us, C, dx, pa, G, p, ds, rfl, hl, _⟩ := h; rw [List.length_cons, hl, hn]) fun A outer s H vs Q E hr h => ⟨_, hbody cdv A outer s H E hr, mkI_pure (X := cxOf (L2.CX P w) P w K mg base N qual scope f cdv A outer s H E) h⟩
end
section
variable {X : Cx} {CX : CXT} {k : Nat} {f C : Addr} {fd : FuncData} {ps : List Str} {sp : Sp} {dvs : List V} {ds : List Value} {E : L2.St → XK} {x : Str} {p pos : Pos} {e : Expr} {es : List Expr} {t : TA}
def tMakeS (C : Addr) (sp : Sp) (dvs : List V) (E : L2.St → XK) (t : TA) : TE := fun σ H Q => t σ H fun vs H1 => ∀ x dx, H1 x = none → H1 dx = none → dx ≠ x →
  sp (.ref x :: (vs ++ dvs)) (upd (upd H1 dx (.own x)) x (.ins C dx [])) (fun v H2 => v = .non ∧ Q (.ref x) H2) (E σ)
theorem run_makeS {pins : List (Addr × Obj)} {σ : L2.St} {H : Hp} {s : Shared} {Q : VK} {us : List Value} {vs : List V} (M : Mk X.K C f) (F : FnOk X.prog X.w X.K X.mg X.base CX k f fd ps sp) (hr : Room (k + 1) X.A) (hb : Binds X.K fd ps ds) (hd : Vals dvs ds)
    (hx : PassesAt CX X σ (E σ)) (I : Inv X pins σ H s) (r : Vals vs us)
    (h : ∀ x dx, H x = none → H dx = none → dx ≠ x → sp (.ref x :: (vs ++ dvs)) (upd (upd H dx (.own x)) x (.ins C dx [])) (fun v H2 => v = .non ∧ Q (.ref x) H2) (E σ)) :
    wpAny (model X.prog X.w) X.A (call (.ref C) us) (EP X pins σ Q) X.xe s := by
  have hq := h (s.heap.objs.size + 1) s.heap.objs.size (I.hok.fresh (Nat.le_succ _)) (I.hok.fresh (Nat.le_refl _)) (Nat.ne_of_lt (Nat.lt_succ_self _))
  have I2 := Inv.made (C := C) I
  have r2 : Vals (V.ref (s.heap.objs.size + 1) :: (vs ++ dvs)) (Value.ref (s.heap.objs.size + 1) :: (us ++ ds)) := .cons rfl (r.append hd)
  have hl : (Value.ref (s.heap.objs.size + 1) :: us ++ ds).length = ps.length := by
    have e := r2.length
    rw [F.len _ _ _ _ hq] at e
    exact e.symm
  refine wpAny_call (make_map (f := f) I.kIn M.makes M.init (beq_iff_eq.mp M.fn) (codeAny_mono (F.run _ X.stack _ _ ⟨Value.ref (s.heap.objs.size + 1) :: us, []⟩ (Value.ref (s.heap.objs.size + 1) :: (us ++ ds)) _ _ (E σ) (hr.make C us [])
    (I2.env0.make C us []) (hb _ (Value.ref (s.heap.objs.size + 1) :: us) I2.kIn hl) r2 hq) fun r s' hq' => ?_))
  cases r with
  | error e => exact hx pins _ _ e s' I2 hq'
  | ok fl =>
    cases fl with
    | ret u =>
      obtain ⟨v, H', I3, rv, ev, q3⟩ := I2.after hq'
      subst ev
      exact ⟨rv, ⟨V.ref (s.heap.objs.size + 1), H', I3, rfl, q3⟩⟩
    | next => exact False.elim hq'
    | brk => exact False.elim hq'
    | cont => exact False.elim hq'
theorem pe_makeS (M : Mk X.K C f) (F : FnOk X.prog X.w X.K X.mg X.base CX k f fd ps sp) (hr : Room (k + 1) X.A) (hg : Gl X x) (hm : X.mg x = some (.ref C)) (hb : Binds X.K fd ps ds) (hd : Vals dvs ds) (hx : ∀ σ, PassesAt CX X σ (E σ))
    (ha : PA X (e :: es) t) (hdb : (x == ("__debug__" : Str)) = false := by decide) (he : starEach (e :: es) X.env = (false, eval e X.env) :: starEach es X.env := by rfl) (hpl : (backTo pos (starEach es X.env)).any (·.1) = false := by rfl) :
    PE X (.Call (.Name x p) (e :: es) [] pos) (tMakeS C sp dvs E t) := by
  refine ⟨fun pins s σ H Q I h => ?_⟩
  refine wpAny_Call_Name_kw (ld_glob I hg hm ?_ hdb)
  refine PySem.W.callWith_K (h₀ := X.base) I.ok.mod.kin M.kp (thn (ha.run pos pins s σ H _ I h) fun us s1 ⟨vs, H1, I1, r, q⟩ => ⟨I1.kIn, ?_⟩) he hpl
  exact run_makeS M F hr hb hd (hx σ) I1 r q
structure Mk0 (K : PySem.W.Frag) (C : Addr) : Prop where
  makes : PySem.W.makesIn K C = true
  init : PySem.W.findIn K (.ref C) "__init__" = some (some (.builtin "object.__init__"))
  kp : PySem.W.keepIn K (.ref C) = true
  top : PySem.W.mroIn K C (.type "object") = some true
def tMake00 (C : Addr) : TE := fun _ H Q => ∀ x dx, H x = none → H dx = none → dx ≠ x → Q (.ref x) (upd (upd H dx (.own x)) x (.ins C dx []))
theorem pe_make00 (M : Mk0 X.K C) (hg : Gl X x) (hm : X.mg x = some (.ref C)) (hdb : (x == ("__debug__" : Str)) = false := by decide) : PE X (.Call (.Name x p) [] [] pos) (tMake00 C) := by
  refine ⟨fun pins s σ H Q I h => ?_⟩
  refine wpAny_Call_Name_kw (ld_glob I hg hm ?_ hdb)
  refine PySem.W.callWith_K0 I.kIn M.kp ?_
  have hq := h (s.heap.objs.size + 1) s.heap.objs.size (I.hok.fresh (Nat.le_succ _)) (I.hok.fresh (Nat.le_refl _)) (Nat.ne_of_lt (Nat.lt_succ_self _))
  have I2 := Inv.made (C := C) I
  refine wpAny_call (make_map0 I.kIn M.makes M.init (fun self => PySem.W.Looks.of_pure (PySem.W.oi_bind self)) ?_)
  obtain ⟨mA, J, _⟩ := ins_get I2.hok (a := s.heap.objs.size + 1) upd_same
  obtain ⟨od, J, _⟩ := J.look
  have t2 : PySem.W.Looks (model X.prog X.w) ((s.heap.push PySem.W.emptyDict).push (PySem.W.instObj C s.heap.objs.size)) (isInstance (.ref (s.heap.objs.size + 1)) (.type "object")) true := J.type.andThen (PySem.W.looks_mroIn I2.kIn M.top)
  refine codeAny_call_builtin PySem.W.oi_plain PySem.W.entry_oi (PySem.W.check_slot PySem.W.oi_kind PySem.W.oi_split t2 (PySem.W.oi_args _) ?_)
  rw [PySem.W.oi_run]
  exact wpAny_pure ⟨rfl, .ref (s.heap.objs.size + 1), _, I2, rfl, hq⟩
end
section
variable {X : Cx} {WW : WX} {a : Expr} {es : List Expr} {pos : Pos} {fs : AM}
def eNew (c : Str) (I : Ini) (fs : AM) (dds : List D) : EM := fun e p => (fs e p).bind fun ds e p => match I (ds ++ dds) p with
  | .ok gs p' => .ok (.obj c gs) e p'
  | .exc x p' => .exc x e p'
  | .bad => .bad
theorem noTab_upd {H : Hp} {a b : Addr} {o : HO} (h : b ≠ a) : noTab (upd H a o) b = noTab H b := by
  unfold noTab
  rw [upd_ne h]
theorem made_core {w : Wl} {G H : Hp} {e : Ev} {p : Pen} {σ : L2.St} {vs : List V} {ds : List D} {c : Str} {C x dx : Addr} {I : Ini} {n : Nat} {Q : VK} (r : R (wd X w) G e p σ H) (hv : RepsW (wd X w) G vs ds) (hn : vs.length = n) (hm : X.mg c = some (.ref C))
    (hx : H x = none) (hdx : H dx = none) (ne : dx ≠ x)
    (q : Post (rpE (wd X w)) (wd X w) WW σ Q G (match I ds p with | .ok gs p' => .ok (.obj c gs) e p' | .exc x p' => .exc x e p' | .bad => .bad)) :
    spI X.K X.mg n c I (.ref x :: vs) (upd (upd H dx (.own x)) x (.ins C dx [])) (fun v H2 => v = .non ∧ Q (.ref x) H2) (fun cls d H => WW cls d σ H) := by
  obtain ⟨f1, f2, f3⟩ := r.base.free hx
  obtain ⟨d1, d2, d3⟩ := r.base.free hdx
  have hx1 : (upd H dx (.own x)) x = none := by rw [upd_ne ne.symm]; exact hx
  obtain ⟨pg, ca, pc, ph⟩ := r.base.pen
  refine ⟨x, vs, C, dx, w.pa, G, p, ds, rfl, hn, hm, upd_same, f2, f3, (r.base.sub.mut d2).mut f2, ⟨pg, ca, pc, ?_⟩, r.base.gt, (r.base.tab.ext (Sub.new hdx)).ext (Sub.new hx1), hv, ?_⟩
  · show upd (upd H dx (.own x)) x (.ins C dx []) w.pa = _
    rw [upd_ne (Ne.symm f3), upd_ne (Ne.symm d3)]
    exact ph
  have rx := r.extra hdx (.own x)
  cases hI : I ds p with
  | ok gs p' =>
    rw [hI] at q
    intro G' H' dx' fs b hg hA hk hr
    have b2 : Base ⟨X.K, X.mg, w.pa, noTab (upd (upd H dx (.own x)) x (.ins C dx' fs)), upd G x (.ins C dx' fs), 0⟩ (upd G' x (.ins C dx' fs)) p' H' := by
      refine ⟨fun b' u hb => ?_, b.g0.upd2 x _, fun b' hb => ?_, fun b' u hb hp ht => ?_, gt_upd b.gt (fun _ z => by cases z), fun b' ps => noTab_nt _ b' ps, b.tab, ?_⟩
      · by_cases z : b' = x
        · subst z
          rw [upd_same] at hb
          cases hb
          exact hA
        · rw [upd_ne z] at hb
          exact b.sub _ _ hb
      · by_cases z : b' = x
        · subst z
          exact .inl (by show upd G b' _ b' ≠ none; rw [upd_same]; exact fun z => nomatch z)
        · rw [upd_ne z] at hb
          rcases b.new b' hb with k | k
          · exact .inl (by show upd G x _ b' ≠ none; rw [upd_ne z]; exact k)
          · refine .inr ?_
            show noTab (upd (upd H dx (.own x)) x (.ins C dx' fs)) b' = none
            have k : hole x (upd (upd H dx (.own x)) x (.ins C dx [])) b' = none := k
            unfold hole at k
            rw [if_neg z, noTab_upd z] at k
            rw [noTab_upd z]
            exact k
      · have hb : noTab (upd (upd H dx (.own x)) x (.ins C dx' fs)) b' = some u := hb
        by_cases z : b' = x
        · subst z
          have := noTab_sub _ hb
          rw [upd_same] at this
          cases this
          exact hA
        · refine b.kept b' u ?_ hp ht
          show hole x (upd (upd H dx (.own x)) x (.ins C dx [])) b' = some u
          unfold hole
          rw [if_neg z, noTab_upd z]
          rw [noTab_upd z] at hb
          exact hb
      · obtain ⟨pg, ca, pc, ph⟩ := b.pen
        exact ⟨by rw [upd_ne (Ne.symm f3)]; exact pg, ca, by rw [upd_ne (ne_of_none pc hg)]; exact pc, ph⟩
    have r4 : R (wd X w) (upd G x (.ins C dx' fs)) e p σ (upd (upd H dx (.own x)) x (.ins C dx' fs)) := rx.alloc hx1 (fun _ z => by cases z)
    obtain ⟨r5, s5⟩ := r4.after b2
    refine ⟨rfl, q (upd G' x (.ins C dx' fs)) (.ref x) H' ((Sub.new f2).trans s5) r5 (.obj hm upd_same hk (hr.mono (Sub.new hg)))⟩
  | exc y p' =>
    rw [hI] at q
    intro G' cls dd H' b hX
    have b2 : Base ⟨X.K, X.mg, w.pa, noTab (upd H dx (.own x)), G, 0⟩ G' p' H' := by
      refine ⟨b.sub, b.g0, fun b' hb => ?_, fun b' u hb hp ht => ?_, b.gt, fun b' ps => noTab_nt _ b' ps, b.tab, b.pen⟩
      · rcases b.new b' hb with k | k
        · exact .inl k
        · refine .inr ?_
          show noTab (upd H dx (.own x)) b' = none
          have k : hole x (upd (upd H dx (.own x)) x (.ins C dx [])) b' = none := k
          unfold hole at k
          by_cases z : b' = x
          · subst z
            exact noTab_none hx1
          · rw [if_neg z, noTab_upd z] at k
            exact k
      · have hb : noTab (upd H dx (.own x)) b' = some u := hb
        have z : b' ≠ x := fun z => by
          subst z
          rw [noTab_none hx1] at hb
          cases hb
        refine b.kept b' u ?_ hp ht
        show hole x (upd (upd H dx (.own x)) x (.ins C dx [])) b' = some u
        unfold hole
        rw [if_neg z, noTab_upd z]
        exact hb
    obtain ⟨r5, s5⟩ := rx.after b2
    exact q G' cls dd H' s5 r5 hX
  | bad => rw [hI] at q; exact q
structure MkO (P : Program) (w : World) (K : PySem.W.Frag) (mg : Str → Option Value) (base : Heap) (k : Nat) (c : Str) (n : Nat) (I : Ini) (dl : List D) : Prop where
  sc : dl.all isSc = true
  ex : ∃ C f fd ps, mg c = some (.ref C) ∧ Mk K C f ∧ FnOk P w K mg base (L2.CX P w) k f fd ps (spI K mg n c I) ∧ ∀ j, j ≤ dl.length → ∃ ds, Vals ((dl.drop j).map scal) ds ∧ Binds K fd ps ds
theorem de_make {k j n : Nat} {c : Str} {I : Ini} {dl dds : List D} {xp : Pos} (M : MkO X.prog X.w X.K X.mg X.base k c n I dl) (hj : dl.drop j = dds) (hjl : j ≤ dl.length) (hr : Room (k + 1) X.A) (tk : Takes X WW) (ha : DA X WW (a :: es) fs) (hn : ∀ e p ds e' p', fs e p = .ok ds e' p' → ds.length + dds.length = n)
    (hg : Gl X c := by rfl) (hdb : (c == ("__debug__" : Str)) = false := by decide) (he : starEach (a :: es) X.env = (false, eval a X.env) :: starEach es X.env := by rfl) (hpl : (backTo pos (starEach es X.env)).any (·.1) = false := by rfl) :
    DE X WW (.Call (.Name c xp) (a :: es) [] pos) (eNew c I fs dds) := by
  obtain ⟨C, f, fd, ps, hm, hM, hF, hB⟩ := M.ex
  obtain ⟨dvs, v1, b1⟩ := hB j hjl
  rw [hj] at v1
  have sc : dds.all isSc = true := by
    rw [← hj, List.all_eq_true]
    exact fun d hd => (List.all_eq_true.mp M.sc) d (List.mem_of_mem_drop hd)
  exact PEw (pe_makeS hM hF hr hg hm b1 v1 (fun σ => passAt tk σ) ha hdb he hpl) fun σ H Q q => by
    obtain ⟨w, G, e, p, r, q⟩ := q
    refine ⟨w, G, e, p, r, ?_⟩
    have q1 := Post.bind (RP := rpA (wd X w)) q
    cases hf : fs e p with
    | bad => rw [hf] at q1; exact q1
    | exc x e1 p1 => rw [hf] at q1; exact q1
    | ok d e1 p1 =>
      have hl := hn _ _ _ _ _ hf
      unfold eNew at q
      rw [hf] at q
      intro G1 vs H1 s1 R1 hv x dx hx hdx ne
      have hv2 := hv.append (reps_scal (K := X.K) (mg := X.mg) (pa := w.pa) (G := G1) sc)
      exact made_core R1 hv2 (by rw [hv2.length, List.length_append]; exact hl) hm hx hdx ne (Post.mono q s1)
structure MkZ (K : PySem.W.Frag) (mg : Str → Option Value) (c : Str) : Prop where
  ex : ∃ C, mg c = some (.ref C) ∧ Mk0 K C
theorem de_make0 {c : Str} {xp : Pos} (M : MkZ X.K X.mg c) (hg : Gl X c := by rfl) (hdb : (c == ("__debug__" : Str)) = false := by decide) : DE X WW (.Call (.Name c xp) [] [] pos) (eC (.obj c [])) := by
  obtain ⟨C, hm, hM⟩ := M.ex
  exact PEw (pe_make00 hM hg hm hdb) fun σ H Q q => by
    obtain ⟨w, G, e, p, r, q⟩ := q
    intro x dx hx hdx ne
    have hx1 : (upd H dx (.own x)) x = none := by rw [upd_ne ne.symm]; exact hx
    have r4 := (r.extra hdx (.own x)).alloc hx1 (o := .ins C dx []) (fun _ z => by cases z)
    obtain ⟨f1, f2, f3⟩ := r.base.free hx
    exact q _ (.ref x) _ (Sub.new f2) r4 (.obj hm upd_same rfl .nil)
end
end Pd

namespace Pd
open PySem PySem.Spec PyProof.Rows L2
def keyD : D → Option Key
  | .int i => some (.inl i)
  | .str x => some (.inr x)
  | _ => none
def keysD : List D → Option (List Key)
  | [] => some []
  | d :: r => (keyD d).bind fun k => (keysD r).map (k :: ·)
def keyT : D → Option (List Key)
  | .tup xs => keysD xs
  | _ => none
def getK {α : Type} [DecidableEq α] (gs : List (α × D)) (k : α) : Option D := (gs.find? fun q => decide (q.1 = k)).map (·.2)
def putKD {α : Type} [DecidableEq α] (gs : List (α × D)) (k : α) (d : D) : List (α × D) :=
  if (gs.any fun q => decide (q.1 = k)) = true then gs.map (fun q => if q.1 = k then (q.1, d) else q) else gs ++ [(k, d)]
section
variable {K : PySem.W.Frag} {mg : Str → Option Value} {pa : Addr} {G : Hp} {α : Type} [DecidableEq α]
theorem keyD_rep {v : V} {d : D} {k : Key} (h : Rep K mg pa G v d) (e : keyD d = some k) : v = kV k := by
  cases h <;> simp [keyD] at e <;> subst e <;> rfl
theorem keysD_rep : ∀ {vs : List V} {ds : List D} {ks : List Key}, Reps K mg pa G vs ds → keysD ds = some ks → vs = ks.map kV
  | _, _, _, .nil, e => by simp [keysD] at e; subst e; rfl
  | _, _, _, .cons (d := d) (ds := ds) h r, e => by
    unfold keysD at e
    cases hk : keyD d with
    | none => rw [hk] at e; simp at e
    | some k =>
      rw [hk] at e
      cases hr : keysD ds with
      | none => rw [hr] at e; simp at e
      | some ks' =>
        rw [hr] at e
        simp at e
        subst e
        rw [keyD_rep h hk, keysD_rep r hr]
        rfl
theorem getK_rep {k : α} : ∀ {fs : List (α × V)} {gs : List (α × D)}, fs.map (·.1) = gs.map (·.1) → Reps K mg pa G (fs.map (·.2)) (gs.map (·.2)) →
    (getK gs k = none → valV fs k = none) ∧ ∀ d, getK gs k = some d → ∃ v, valV fs k = some v ∧ Rep K mg pa G v d
  | [], [], _, _ => ⟨fun _ => rfl, fun d h => by simp [getK] at h⟩
  | [], _ :: _, h, _ => by simp at h
  | _ :: _, [], h, _ => by simp at h
  | (x, u) :: fs, (y, t) :: gs, hk, hr => by
    simp only [List.map_cons, List.cons.injEq] at hk
    obtain ⟨rfl, hk⟩ := hk
    cases hr with
    | cons h1 h2 =>
      obtain ⟨i1, i2⟩ := getK_rep (k := k) hk h2
      by_cases z : x = k
      · subst z
        have e1 : getK ((x, t) :: gs) x = some t := by simp [getK]
        rw [e1, valV_pos (p := (x, u)) rfl]
        exact ⟨fun h => by simp at h, fun d h => ⟨u, rfl, by cases h; exact h1⟩⟩
      · have e1 : getK ((x, t) :: gs) k = getK gs k := by simp [getK, List.find?_cons, z]
        rw [e1, valV_neg (p := (x, u)) z]
        exact ⟨i1, i2⟩
theorem anyK_rep {k : α} : ∀ {fs : List (α × V)} {gs : List (α × D)}, fs.map (·.1) = gs.map (·.1) → (fs.any fun q => decide (q.1 = k)) = (gs.any fun q => decide (q.1 = k))
  | [], [], _ => rfl
  | [], _ :: _, h => by simp at h
  | _ :: _, [], h => by simp at h
  | (x, u) :: fs, (y, t) :: gs, hk => by
    simp only [List.map_cons, List.cons.injEq] at hk
    obtain ⟨rfl, hk⟩ := hk
    rw [List.any_cons, List.any_cons, anyK_rep hk]
theorem mapK_rep {k : α} {v : V} {d : D} (hv : Rep K mg pa G v d) : ∀ {fs : List (α × V)} {gs : List (α × D)}, fs.map (·.1) = gs.map (·.1) → Reps K mg pa G (fs.map (·.2)) (gs.map (·.2)) →
    (fs.map (fun q => if q.1 = k then (q.1, v) else q)).map (·.1) = (gs.map (fun q => if q.1 = k then (q.1, d) else q)).map (·.1) ∧ Reps K mg pa G ((fs.map (fun q => if q.1 = k then (q.1, v) else q)).map (·.2)) ((gs.map (fun q => if q.1 = k then (q.1, d) else q)).map (·.2))
  | [], [], _, _ => ⟨rfl, .nil⟩
  | [], _ :: _, h, _ => by simp at h
  | _ :: _, [], h, _ => by simp at h
  | (x, u) :: fs, (y, t) :: gs, hk, hr => by
    simp only [List.map_cons, List.cons.injEq] at hk
    obtain ⟨rfl, hk⟩ := hk
    cases hr with
    | cons h1 h2 =>
      obtain ⟨i1, i2⟩ := mapK_rep (k := k) hv hk h2
      by_cases z : x = k
      · simp only [List.map_cons, if_pos z]
        exact ⟨by rw [i1], .cons hv i2⟩
      · simp only [List.map_cons, if_neg z]
        exact ⟨by rw [i1], .cons h1 i2⟩
theorem putK_rep {k : α} {v : V} {d : D} (hv : Rep K mg pa G v d) {fs : List (α × V)} {gs : List (α × D)} (hk : fs.map (·.1) = gs.map (·.1)) (hr : Reps K mg pa G (fs.map (·.2)) (gs.map (·.2))) :
    (putK fs k v).map (·.1) = (putKD gs k d).map (·.1) ∧ Reps K mg pa G ((putK fs k v).map (·.2)) ((putKD gs k d).map (·.2)) := by
  unfold putK putKD
  rw [anyK_rep hk]
  by_cases z : (gs.any fun q => decide (q.1 = k)) = true
  · rw [if_pos z, if_pos z]
    exact mapK_rep hv hk hr
  · rw [if_neg z, if_neg z]
    refine ⟨by simp [hk], ?_⟩
    simp only [List.map_append, List.map_cons, List.map_nil]
    exact hr.append (.cons hv .nil)
end
theorem soft_dT {fs : List (List Key × V)} : Soft (some (.dT fs)) := fun _ h => by cases h; exact ⟨(fun _ z => by cases z), (fun _ z => by cases z)⟩
section
variable {W : Wd} {G H : Hp} {e : Ev} {p : Pen} {σ : L2.St}
theorem R.getDt (r : R W G e p σ H) {i : Nat} {gs : List (List Key × D)} (h : e[i]? = some (some (.dt gs))) :
    ∃ a fs, σ[i]? = some (some (.ref a)) ∧ H a = some (.dT fs) ∧ fs.map (·.1) = gs.map (·.1) ∧ Reps W.K W.mg W.pa G (fs.map (·.2)) (gs.map (·.2)) ∧
      (∀ fs' gs', fs'.map (·.1) = gs'.map (·.1) → Reps W.K W.mg W.pa G (fs'.map (·.2)) (gs'.map (·.2)) → R W G (e.set i (some (.dt gs'))) p σ (upd H a (.dT fs'))) ∧
      ∃ G', Sub G G' ∧ R W G' (e.set i (some (.v (.dt gs)))) p σ H ∧ Rep W.K W.mg W.pa G' (.ref a) (.dt gs) := by
  obtain ⟨fps, h1, h2, h3⟩ := r.sls
  obtain ⟨s, fp, q1, q2, q3⟩ := h1.get h
  cases q3 with
  | dt ha hk hr =>
    rename_i a fs
    have hmm : a ∈ fps.flatten := List.mem_flatten.mpr ⟨[a], List.mem_of_getElem? q2, by simp⟩
    obtain ⟨g1, g2, g3⟩ := h3 a hmm
    refine ⟨a, fs, q1, ha, hk, hr, fun fs' gs' hk' hr' => ?_, upd G a (.dT fs), Sub.new g1, ?_, .dt upd_same hk (hr.mono (Sub.new g1))⟩
    · refine R.reslot h1 h2 h3 q1 q2 (r.base.write g1 g2 g3 (by rw [ha]; exact soft_dT)) (Sub.refl G) (fp' := [a]) (.dt upd_same hk' hr') (fun b hb nb o ho => ?_) (fun b hb _ => (h3 b hb).1) (by simp) (fun b hb => ?_)
      · rw [upd_ne (fun z => nb (by rw [z]; simp))]
        exact ho
      · obtain rfl := List.mem_singleton.mp hb
        exact ⟨.inl (by simp), g1, g2, g3⟩
    · refine R.reslot h1 h2 h3 q1 q2 (r.base.still ha g1 g2 g3) (Sub.new g1) (fp' := []) (.val (.dt upd_same hk (hr.mono (Sub.new g1)))) (fun b hb nb o ho => ho) (fun b hb nb => ?_) (by simp) (fun b hb => by cases hb)
      rw [upd_ne (fun z => nb (by rw [z]; simp))]
      exact (h3 b hb).1
theorem R.getDk (r : R W G e p σ H) {i : Nat} {gs : List (Key × D)} (h : e[i]? = some (some (.dk gs))) :
    ∃ a fs, σ[i]? = some (some (.ref a)) ∧ H a = some (.dK fs) ∧ fs.map (·.1) = gs.map (·.1) ∧ Reps W.K W.mg W.pa G (fs.map (·.2)) (gs.map (·.2)) ∧
      (∀ fs' gs', fs'.map (·.1) = gs'.map (·.1) → Reps W.K W.mg W.pa G (fs'.map (·.2)) (gs'.map (·.2)) → R W G (e.set i (some (.dk gs'))) p σ (upd H a (.dK fs'))) ∧
      ∃ G', Sub G G' ∧ R W G' (e.set i (some (.v (.dk gs)))) p σ H ∧ Rep W.K W.mg W.pa G' (.ref a) (.dk gs) := by
  obtain ⟨fps, h1, h2, h3⟩ := r.sls
  obtain ⟨s, fp, q1, q2, q3⟩ := h1.get h
  cases q3 with
  | dk ha hk hr =>
    rename_i a fs
    have hmm : a ∈ fps.flatten := List.mem_flatten.mpr ⟨[a], List.mem_of_getElem? q2, by simp⟩
    obtain ⟨g1, g2, g3⟩ := h3 a hmm
    refine ⟨a, fs, q1, ha, hk, hr, fun fs' gs' hk' hr' => ?_, upd G a (.dK fs), Sub.new g1, ?_, .dk upd_same hk (hr.mono (Sub.new g1))⟩
    · refine R.reslot h1 h2 h3 q1 q2 (r.base.write g1 g2 g3 (by rw [ha]; exact soft_dK _)) (Sub.refl G) (fp' := [a]) (.dk upd_same hk' hr') (fun b hb nb o ho => ?_) (fun b hb _ => (h3 b hb).1) (by simp) (fun b hb => ?_)
      · rw [upd_ne (fun z => nb (by rw [z]; simp))]
        exact ho
      · obtain rfl := List.mem_singleton.mp hb
        exact ⟨.inl (by simp), g1, g2, g3⟩
    · refine R.reslot h1 h2 h3 q1 q2 (r.base.still ha g1 g2 g3) (Sub.new g1) (fp' := []) (.val (.dk upd_same hk (hr.mono (Sub.new g1)))) (fun b hb nb o ho => ho) (fun b hb nb => ?_) (by simp) (fun b hb => by cases hb)
      rw [upd_ne (fun z => nb (by rw [z]; simp))]
      exact (h3 b hb).1
theorem R.storeObj (r : R W G e p σ H) {a : Addr} {o : HO} {sl : Sl} (i : Nat) (h : H a = none) (q : SlR W G (upd H a o) (some (.ref a)) (some sl) [a]) : R W G (e.set i (some sl)) p (σ.set i (some (.ref a))) (upd H a o) := by
  obtain ⟨fps, h1, h2, h3⟩ := r.sls
  obtain ⟨f1, f2, f3⟩ := r.base.free h
  have nin : a ∉ fps.flatten := fun z => h1.there a z h
  have h1' : SlRs W G (upd H a o) σ e fps := h1.mono (Sub.refl G) fun b hb u hu => by
    rw [upd_ne (fun z => nin (by rw [← z]; exact hb))]
    exact hu
  refine ⟨r.base.write f2 f1 f3 (by rw [h]; exact Soft.none), fps.set i [a], h1'.set i q, nodup_set_flatten h2 (by simp) (fun b hb => ?_), fun b hb => ?_⟩
  · have : b = a := by simpa using hb
    rw [this]
    exact nin
  · rcases mem_set_flatten hb with q | q
    · have : b = a := by simpa using q
      rw [this]
      exact ⟨f2, f1, f3⟩
    · exact h3 b q
end
def dctAt (e : Ev) (i : Nat) : Option (List (Key × D) ⊕ List (List Key × D)) := match e[i]? with
  | some (some (.dk gs)) => some (.inl gs)
  | some (some (.dt gs)) => some (.inr gs)
  | some (some (.v (.dk gs))) => some (.inl gs)
  | some (some (.v (.dt gs))) => some (.inr gs)
  | _ => none
def dgetD (m : List (Key × D) ⊕ List (List Key × D)) (k : D) : Option (Option D) := match m with
  | .inl gs => (keyD k).map fun q => getK gs q
  | .inr gs => (keyT k).map fun q => getK gs q
section
variable {W : Wd} {G H : Hp} {e : Ev} {p : Pen} {σ : L2.St}
theorem R.dget (r : R W G e p σ H) {i : Nat} {m : List (Key × D) ⊕ List (List Key × D)} {y : V} {k : D} {o : Option D} (hm : dctAt e i = some m) (hy : RepW W G y k) (ho : dgetD m k = some o) :
    ∃ a u, σ[i]? = some (some (.ref a)) ∧ DGet H a y u ∧ u.isSome = o.isSome ∧ ∀ d, o = some d → ∃ v, u = some v ∧ RepW W G v d := by
  have fin : ∀ {α : Type} [DecidableEq α] {fs : List (α × V)} {gs : List (α × D)} {q : α}, fs.map (·.1) = gs.map (·.1) → RepsW W G (fs.map (·.2)) (gs.map (·.2)) → (valV fs q).isSome = (getK gs q).isSome ∧ ∀ d, getK gs q = some d → ∃ v, valV fs q = some v ∧ RepW W G v d := by
    intro α _ fs gs q hk hr
    obtain ⟨i1, i2⟩ := getK_rep (k := q) hk hr
    refine ⟨?_, i2⟩
    cases hg : getK gs q with
    | none =>
      rw [i1 hg]
      rfl
    | some d =>
      obtain ⟨v, hv, _⟩ := i2 d hg
      rw [hv]
      rfl
  have dk : ∀ {a : Addr} {fs : List (Key × V)} {gs : List (Key × D)}, σ[i]? = some (some (.ref a)) → H a = some (.dK fs) → fs.map (·.1) = gs.map (·.1) → RepsW W G (fs.map (·.2)) (gs.map (·.2)) → dgetD (.inl gs) k = some o → ∃ a u, σ[i]? = some (some (.ref a)) ∧ DGet H a y u ∧ u.isSome = o.isSome ∧ ∀ d, o = some d → ∃ v, u = some v ∧ RepW W G v d := by
    intro a fs gs hs ha hk hr ho
    unfold dgetD at ho
    cases hq : keyD k with
    | none => rw [hq] at ho; cases ho
    | some q =>
      rw [hq] at ho
      cases ho
      obtain ⟨f1, f2⟩ := fin (q := q) hk hr
      rw [keyD_rep hy hq]
      exact ⟨a, _, hs, DGet.k ha, f1, f2⟩
  have dt : ∀ {a : Addr} {fs : List (List Key × V)} {gs : List (List Key × D)}, σ[i]? = some (some (.ref a)) → H a = some (.dT fs) → fs.map (·.1) = gs.map (·.1) → RepsW W G (fs.map (·.2)) (gs.map (·.2)) → dgetD (.inr gs) k = some o → ∃ a u, σ[i]? = some (some (.ref a)) ∧ DGet H a y u ∧ u.isSome = o.isSome ∧ ∀ d, o = some d → ∃ v, u = some v ∧ RepW W G v d := by
    intro a fs gs hs ha hk hr ho
    unfold dgetD at ho
    cases hq : keyT k with
    | none => rw [hq] at ho; cases ho
    | some q =>
      rw [hq] at ho
      cases ho
      obtain ⟨f1, f2⟩ := fin (q := q) hk hr
      unfold keyT at hq
      split at hq
      · cases hy with
        | tup hb rb =>
          have eb := keysD_rep rb hq
          rw [eb] at hb
          exact ⟨a, _, hs, DGet.t ha (r.sub _ _ hb), f1, f2⟩
      · cases hq
  unfold dctAt at hm
  split at hm
  · rename_i gs hx
    cases hm
    obtain ⟨a, fs, h1, h2, h3, h4, _⟩ := r.getDk hx
    exact dk h1 h2 h3 h4 ho
  · rename_i gs hx
    cases hm
    obtain ⟨a, fs, h1, h2, h3, h4, _⟩ := r.getDt hx
    exact dt h1 h2 h3 h4 ho
  · rename_i gs hx
    cases hm
    obtain ⟨v, h1, h2⟩ := r.getV hx
    cases h2 with
    | dk ha hk hr => exact dk h1 (r.sub _ _ ha) hk hr ho
  · rename_i gs hx
    cases hm
    obtain ⟨v, h1, h2⟩ := r.getV hx
    cases h2 with
    | dt ha hk hr => exact dt h1 (r.sub _ _ ha) hk hr ho
  · cases hm
end
section
variable {X : Cx} {WW : WX} {a b : Expr} {pos : Pos} {fa fb : EM}
def eDGet (i : Nat) (fb : EM) : EM := fun e p => match e[i]? with
  | some (some _) => (fb e p).bind fun k e p => match (dctAt e i).bind fun m => dgetD m k with
    | some (some d) => .ok d e p
    | _ => .bad
  | _ => .bad
def eDIn (i : Nat) (neg : Bool) (fa : EM) : EM := fun e p => (fa e p).bind fun k e p => match (dctAt e i).bind fun m => dgetD m k with
  | some o => .ok (.bl (o.isSome != neg)) e p
  | none => .bad
theorem de_dgetV {x : Str} {xp : Pos} (i : Nat) (hu : X.A.units + 1 < cLine) (hb : DE X WW b fb) (hN : X.N[i]? = some x := by rfl) (hv : Vis X.env.scope x := by first | exact Or.inl rfl | exact Or.inr (Or.inl rfl) | exact Or.inr (Or.inr rfl)) (hd : (x == ("__debug__" : Str)) = false := by decide)
    (hcd : (x == ("__classdict__" : Str)) = false := by decide) (hs : NoSl b := by intro _ _; rfl) : DE X WW (.Subscript (.Name x xp) b pos) (eDGet i fb) := PEw (pe_dget hu (pe_var hN hv hd hcd) hb hs) fun σ H Q ⟨w, G, e, p, r, q⟩ => by
  unfold eDGet at q
  split at q
  · rename_i sl hsl
    obtain ⟨v, hvv⟩ := r.has hsl
    refine ⟨v, hvv, (ee_w (ta := fb) ⟨w, G, e, p, r, q⟩).imp fun y H1 ⟨w, G, k, e, p, r, hy, q1⟩ => ?_⟩
    split at q1
    · rename_i d hd
      cases hm : dctAt e i with
      | none => rw [hm] at hd; simp at hd
      | some m =>
        rw [hm] at hd
        obtain ⟨a, u, h1, h2, h3, h4⟩ := r.dget hm hy hd
        obtain ⟨v', hv', rv⟩ := h4 d rfl
        subst hv'
        rw [hvv] at h1
        cases h1
        exact ⟨a, v', rfl, h2, q1 G v' H1 (Sub.refl _) r rv⟩
    · exact q1.elim
  · exact q.elim
theorem din_w {i : Nat} {neg : Bool} (σ : L2.St) (H : Hp) (Q : VK) (q : tE X WW (eDIn i neg fa) σ H Q) : tE X WW fa σ H (fun y H1 => tVar i σ H1 fun x H2 => ∃ a o, x = .ref a ∧ DGet H2 a y o ∧ Q (.bl (o.isSome != neg)) H2) :=
  (ee_w q).imp fun y H1 ⟨w, G, k, e, p, r, hy, q1⟩ => by
    split at q1
    · rename_i o ho
      cases hm : dctAt e i with
      | none => rw [hm] at ho; simp at ho
      | some m =>
        rw [hm] at ho
        obtain ⟨a, u, h1, h2, h3, h4⟩ := r.dget hm hy ho
        refine ⟨.ref a, h1, a, u, rfl, h2, ?_⟩
        rw [h3]
        exact q1 G _ H1 (Sub.refl _) r (.bl _)
    · exact q1.elim
theorem de_din {x : Str} {xp : Pos} (i : Nat) (hu : X.A.units + 1 < cLine) (ha : DE X WW a fa) (hN : X.N[i]? = some x := by rfl) (hv : Vis X.env.scope x := by first | exact Or.inl rfl | exact Or.inr (Or.inl rfl) | exact Or.inr (Or.inr rfl)) (hd : (x == ("__debug__" : Str)) = false := by decide)
    (hcd : (x == ("__classdict__" : Str)) = false := by decide) : DE X WW (.Compare a [.In] [.Name x xp] pos) (eDIn i false fa) := PEw (pe_cmp (pc_din hu ha (pe_var hN hv hd hcd))) fun σ H Q q => (din_w (neg := false) σ H Q q).imp fun y H1 ⟨x, h1, a, o, h2, h3, h4⟩ => ⟨x, h1, a, o, h2, h3, by simpa using h4⟩
theorem de_dnotin {x : Str} {xp : Pos} (i : Nat) (hu : X.A.units + 1 < cLine) (ha : DE X WW a fa) (hN : X.N[i]? = some x := by rfl) (hv : Vis X.env.scope x := by first | exact Or.inl rfl | exact Or.inr (Or.inl rfl) | exact Or.inr (Or.inr rfl)) (hd : (x == ("__debug__" : Str)) = false := by decide)
    (hcd : (x == ("__classdict__" : Str)) = false := by decide) : DE X WW (.Compare a [.NotIn] [.Name x xp] pos) (eDIn i true fa) := PEw (pe_cmp (pc_dnotin hu ha (pe_var hN hv hd hcd))) fun σ H Q q => (din_w (neg := true) σ H Q q).imp fun y H1 ⟨x, h1, a, o, h2, h3, h4⟩ => ⟨x, h1, a, o, h2, h3, by cases ho : o.isSome <;> simpa [ho] using h4⟩
theorem dt_din {x : Str} {xp : Pos} (i : Nat) (hu : X.A.units + 1 < cLine) (ha : DE X WW a fa) (hN : X.N[i]? = some x := by rfl) (hv : Vis X.env.scope x := by first | exact Or.inl rfl | exact Or.inr (Or.inl rfl) | exact Or.inr (Or.inr rfl)) (hd : (x == ("__debug__" : Str)) = false := by decide)
    (hcd : (x == ("__classdict__" : Str)) = false := by decide) : DT X WW (.Compare a [.In] [.Name x xp] pos) (tmB (eDIn i false fa)) := PTw (pt_cmp (pc_din hu ha (pe_var hN hv hd hcd))) (tb_w fun σ H Q q => (din_w (neg := false) σ H Q q).imp fun y H1 ⟨x, h1, a, o, h2, h3, h4⟩ => ⟨x, h1, a, o, h2, h3, by simpa using h4⟩)
theorem dt_dnotin {x : Str} {xp : Pos} (i : Nat) (hu : X.A.units + 1 < cLine) (ha : DE X WW a fa) (hN : X.N[i]? = some x := by rfl) (hv : Vis X.env.scope x := by first | exact Or.inl rfl | exact Or.inr (Or.inl rfl) | exact Or.inr (Or.inr rfl)) (hd : (x == ("__debug__" : Str)) = false := by decide)
    (hcd : (x == ("__classdict__" : Str)) = false := by decide) : DT X WW (.Compare a [.NotIn] [.Name x xp] pos) (tmB (eDIn i true fa)) := PTw (pt_cmp (pc_dnotin hu ha (pe_var hN hv hd hcd))) (tb_w fun σ H Q q => (din_w (neg := true) σ H Q q).imp fun y H1 ⟨x, h1, a, o, h2, h3, h4⟩ => ⟨x, h1, a, o, h2, h3, by cases ho : o.isSome <;> simpa [ho] using h4⟩)
def sDPutV (i : Nat) (fk fv : EM) : SM := fun e p => toS (fv e p) fun d e p => match e[i]? with
  | some (some (.dk _)) => toS (fk e p) fun k e p => (match e[i]?, keyD k with
    | some (some (.dk gs)), some q => if gs.length < 9000000 then .nx (e.set i (some (.dk (putKD gs q d)))) p else .bad
    | _, _ => .bad)
  | some (some (.dt _)) => toS (fk e p) fun k e p => (match e[i]?, keyT k with
    | some (some (.dt gs)), some q => if gs.length < 9000000 then .nx (e.set i (some (.dt (putKD gs q d)))) p else .bad
    | _, _ => .bad)
  | _ => .bad
theorem es_w2 {k : D → Ev → Pen → SR} {fa : EM} {w : Wl} {G0 : Hp} {v : V} {d : D} {σ : L2.St} {H : Hp} {e : Ev} {p : Pen} {D : Ends} (hv : RepW (wd X w) G0 v d) (r : R (wd X w) G0 e p σ H) (q : PostS (wd X w) WW D G0 (toS (fa e p) k)) :
    tE X WW fa σ H fun u H1 => ∃ G1 c e p, Sub G0 G1 ∧ R (wd X w) G1 e p σ H1 ∧ RepW (wd X w) G1 u c ∧ PostS (wd X w) WW D G1 (k c e p) := by
  refine ⟨w, G0, e, p, r, ?_⟩
  cases hf : fa e p with
  | bad => rw [hf] at q; exact q
  | exc x e1 p1 => rw [hf] at q; exact fun G' cls dd H' s r hx => q G' cls dd σ H' s r hx
  | ok c e1 p1 =>
    rw [hf] at q
    exact fun G1 u H1 s1 R1 hu => ⟨G1, c, e1, p1, s1, R1, hu, PostS.mono q s1⟩
theorem ds_dput {x : Str} {xp pos' : Pos} {i : Nat} (hu : X.A.units + 1 < cLine) (hv : DE X WW a fa) (hk : DE X WW b fb) (hN : X.N[i]? = some x := by rfl) (hvs : Vis X.env.scope x := by first | exact Or.inl rfl | exact Or.inr (Or.inl rfl) | exact Or.inr (Or.inr rfl))
    (hd : (x == ("__debug__" : Str)) = false := by decide) (hcd : (x == ("__classdict__" : Str)) = false := by decide) (hs : swapsWith a (some (.Subscript (.Name x xp) b pos')) pos.line X.env = pure false := by rfl) :
    DS X WW (.Assign [.Subscript (.Name x xp) b pos'] a pos) (sDPutV i fb fa) := PSw (ps_dput hu (pe_var hN hvs hd hcd) hk hv hs) fun D σ H q => (es_w q).imp fun v H1 ⟨w, G, d, e, p, r, hv, q1⟩ => by
  split at q1
  · rename_i gs0 hx0
    obtain ⟨a, fs, h1, h2, _⟩ := r.getDk hx0
    refine ⟨.ref a, h1, (es_w2 hv r q1).imp fun y H2 ⟨G1, c, e1, p1, s1, r1, hy, q2⟩ => ?_⟩
    split at q2
    · rename_i gs q hx hq
      split at q2
      · rename_i hl
        obtain ⟨a', fs', k1, k2, k3, k4, k5, _⟩ := r1.getDk hx
        rw [h1] at k1
        cases k1
        obtain ⟨z1, z2⟩ := putK_rep (k := q) (hv.mono s1) k3 k4
        have hlen : fs'.length = gs.length := by simpa using congrArg List.length k3
        rw [keyD_rep hy hq]
        exact ⟨a, _, rfl, DPut.k k2 (by rw [hlen, sizeLine_eq]; omega), q2 G1 σ _ (Sub.refl _) (k5 _ _ z1 z2)⟩
      · exact q2.elim
    · exact q2.elim
  · rename_i gs0 hx0
    obtain ⟨a, fs, h1, h2, _⟩ := r.getDt hx0
    refine ⟨.ref a, h1, (es_w2 hv r q1).imp fun y H2 ⟨G1, c, e1, p1, s1, r1, hy, q2⟩ => ?_⟩
    split at q2
    · rename_i gs q hx hq
      split at q2
      · rename_i hl
        obtain ⟨a', fs', k1, k2, k3, k4, k5, _⟩ := r1.getDt hx
        rw [h1] at k1
        cases k1
        obtain ⟨z1, z2⟩ := putK_rep (k := q) (hv.mono s1) k3 k4
        have hlen : fs'.length = gs.length := by simpa using congrArg List.length k3
        unfold keyT at hq
        split at hq
        · cases hy with
          | tup hb rb =>
            have eb := keysD_rep rb hq
            rw [eb] at hb
            exact ⟨a, _, rfl, DPut.t k2 (r1.sub _ _ hb) (by rw [hlen, sizeLine_eq]; omega), q2 G1 σ _ (Sub.refl _) (k5 _ _ z1 z2)⟩
        · cases hq
      · exact q2.elim
    · exact q2.elim
  · exact q1.elim
end
section
variable {X : Cx} {WW : WX} {a b : Expr} {pos : Pos} {fa fb : EM}
def PostN {α : Type} (SR0 : Wd → Hp → HO → α → Prop) (W : Wd) (WW : WX) (σ : L2.St) (Q : VK) (G : Hp) : Res α → Prop
  | .ok m e p => ∀ G' a o H', Sub G G' → R W G' e p σ H' → H' a = none → SR0 W G' o m → Q (.ref a) (upd H' a o)
  | .exc x e p => ∀ G' cls dd H', Sub G G' → R W G' e p σ H' → XRep W G' cls dd x → WW cls dd σ H'
  | .bad => False
def rpDt (W : Wd) (G : Hp) (o : HO) (gs : List (List Key × D)) : Prop := ∃ fs, o = .dT fs ∧ fs.map (·.1) = gs.map (·.1) ∧ Reps W.K W.mg W.pa G (fs.map (·.2)) (gs.map (·.2))
def rpDk (W : Wd) (G : Hp) (o : HO) (gs : List (Key × D)) : Prop := ∃ fs, o = .dK fs ∧ fs.map (·.1) = gs.map (·.1) ∧ Reps W.K W.mg W.pa G (fs.map (·.2)) (gs.map (·.2))
abbrev KtM := Ev → Pen → Res (List (List Key × D))
abbrev KkM := Ev → Pen → Res (List (Key × D))
def tFT (X : Cx) (WW : WX) (f : KtM) : TE := fun σ H Q => ∃ w G e p, R (wd X w) G e p σ H ∧ PostN rpDt (wd X w) WW σ Q G (f e p)
def tFK (X : Cx) (WW : WX) (f : KkM) : TE := fun σ H Q => ∃ w G e p, R (wd X w) G e p σ H ∧ PostN rpDk (wd X w) WW σ Q G (f e p)
def ktNil : KtM := fun e p => .ok [] e p
def kkNil : KkM := fun e p => .ok [] e p
theorem ft_nil : PE X (.Dict [] [] pos) (tFT X WW ktNil) := PEw pe_dnewT fun σ H Q ⟨w, G, e, p, r, q⟩ => fun a ha => q G a _ H (Sub.refl _) r ha ⟨[], rfl, rfl, .nil⟩
theorem fk_nil : PE X (.Dict [] [] pos) (tFK X WW kkNil) := PEw pe_dnewK fun σ H Q ⟨w, G, e, p, r, q⟩ => fun a ha => q G a _ H (Sub.refl _) r ha ⟨[], rfl, rfl, .nil⟩
theorem RowsR.toW {W W' : Wd} (hK : W'.K = W.K) (hm : W'.mg = W.mg) (hp : W'.pa = W.pa) {G H : Hp} : ∀ {bs : List Addr} {rows : List (List D)}, RowsR W G H bs rows → RowsR W' G H bs rows
  | _, _, .nil => .nil
  | _, _, .cons h1 h2 r => .cons h1 (by rw [hK, hm, hp]; exact h2) (RowsR.toW hK hm hp r)
theorem SlR.toW {W W' : Wd} (hK : W'.K = W.K) (hm : W'.mg = W.mg) (hp : W'.pa = W.pa) (hs : W'.sf = W.sf) {G H : Hp} {s : Option V} {sl : Option Sl} {fp : List Addr} (q : SlR W G H s sl fp) : SlR W' G H s sl fp := by
  cases q with
  | emp => exact .emp
  | val h => exact .val (by rw [hK, hm, hp]; exact h)
  | lis h k => exact .lis h (by rw [hK, hm, hp]; exact k)
  | lis2 h k => exact .lis2 h (k.toW hK hm hp)
  | ins h1 h2 h3 h4 =>
    rw [← hs] at h2 ⊢
    exact .ins (by rw [hm]; exact h1) h2 h3 (by rw [hK, hm, hp]; exact h4)
  | dk h1 h2 h3 => exact .dk h1 h2 (by rw [hK, hm, hp]; exact h3)
  | dt h1 h2 h3 => exact .dt h1 h2 (by rw [hK, hm, hp]; exact h3)
theorem SlRs.toW {W W' : Wd} (hK : W'.K = W.K) (hm : W'.mg = W.mg) (hp : W'.pa = W.pa) (hs : W'.sf = W.sf) {G H : Hp} : ∀ {σ : L2.St} {e : Ev} {fps : List (List Addr)}, SlRs W G H σ e fps → SlRs W' G H σ e fps
  | _, _, _, .nil => .nil
  | _, _, _, .cons q r => .cons (q.toW hK hm hp hs) (SlRs.toW hK hm hp hs r)
theorem R.guard {w : Wl} {G H : Hp} {e : Ev} {p : Pen} {σ : L2.St} {a : Addr} {o : HO} (r : R (wd X w) G e p σ H) (ha : H a = none) (ho : ∀ ps, o ≠ .tbl ps) : R (wd X ⟨w.pa, upd w.B a o, w.G0, w.sf⟩) G e p σ (upd H a o) := by
  obtain ⟨fps, h1, h2, h3⟩ := r.sls
  have b := (r.extra ha o).base
  obtain ⟨f1, f2, f3⟩ := r.base.free ha
  refine ⟨⟨b.sub, b.g0, fun c hc => ?_, fun c u hc hp ht => ?_, b.gt, fun c ps z => ?_, b.tab, b.pen⟩, fps, ?_, h2, fun c hc => ?_⟩
  · rcases b.new c hc with k | k
    · exact .inl k
    · by_cases z : c = a
      · subst z
        exact absurd f2 hc
      · exact .inr (by show upd w.B a o c = none; rw [upd_ne z]; exact k)
  · have hc : upd w.B a o c = some u := hc
    by_cases z : c = a
    · subst z
      rw [upd_same] at hc ⊢
      exact hc
    · rw [upd_ne z] at hc
      exact b.kept c u hc hp ht
  · have z : upd w.B a o c = some (.tbl ps) := z
    by_cases k : c = a
    · subst k
      rw [upd_same] at z
      exact ho ps (Option.some.inj z)
    · rw [upd_ne k] at z
      exact b.nt c ps z
  · exact SlRs.toW (W := wd X w) (W' := wd X ⟨w.pa, upd w.B a o, w.G0, w.sf⟩) (H := upd H a o) rfl rfl rfl rfl (h1.mono (Sub.refl G) fun c hc u hu => by
      rw [upd_ne (fun z => h1.there c hc (by rw [z]; exact ha))]
      exact hu)
  · obtain ⟨q1, q2, q3⟩ := h3 c hc
    refine ⟨q1, ?_, q3⟩
    show upd w.B a o c = none
    rw [upd_ne (fun z => h1.there c hc (by rw [z]; exact ha))]
    exact q2
theorem R.loose {w : Wl} {G H : Hp} {e : Ev} {p : Pen} {σ : L2.St} {a : Addr} {o : HO} (r : R (wd X ⟨w.pa, upd w.B a o, w.G0, w.sf⟩) G e p σ H) (hB : w.B a = none) (hg : w.G0 a = none) (hp : a ≠ w.pa) (ho : Soft (some o)) : H a = some o ∧ G a = none ∧ R (wd X w) G e p σ (fun b => if b = a then none else H b) := by
  obtain ⟨fps, h1, h2, h3⟩ := r.sls
  have b := r.base
  have hA : H a = some o := b.kept a o (by show upd w.B a o a = _; rw [upd_same]) hp (fun ps z => by subst z; exact (ho _ rfl).1 ps rfl)
  have hG : G a = none := by
    cases z : G a with
    | none => rfl
    | some u =>
      rcases b.new a (by rw [z]; exact fun z => nomatch z) with k | k
      · exact absurd hg k
      · have k : upd w.B a o a = none := k
        rw [upd_same] at k
        cases k
  refine ⟨hA, hG, ⟨fun c u hc => ?_, b.g0, fun c hc => ?_, fun c u hc hp' ht => ?_, b.gt, fun c ps z => ?_, ?_, ?_⟩, fps, ?_, h2, fun c hc => ?_⟩
  · have ne : c ≠ a := ne_of_none hc hG
    show (if c = a then none else H c) = _
    rw [if_neg ne]
    exact b.sub c u hc
  · rcases b.new c hc with k | k
    · exact .inl k
    · have k : upd w.B a o c = none := k
      by_cases z : c = a
      · subst z
        exact absurd hG hc
      · rw [upd_ne z] at k
        exact .inr k
  · have ne : c ≠ a := fun z => by
      have hc : w.B c = some u := hc
      rw [z, hB] at hc
      cases hc
    show (if c = a then none else H c) = _
    rw [if_neg ne]
    exact b.kept c u (by show upd w.B a o c = _; rw [upd_ne ne]; exact hc) hp' ht
  · have z : w.B c = some (.tbl ps) := z
    have ne : c ≠ a := fun k => by rw [k, hB] at z; cases z
    exact b.nt c ps (by show upd w.B a o c = _; rw [upd_ne ne]; exact z)
  · exact tabs_but b.tab (by rw [hA]; exact ho) fun c hc => if_neg hc
  · obtain ⟨p1, ca, p2, p3⟩ := b.pen
    refine ⟨p1, ca, p2, ?_⟩
    show (if w.pa = a then none else H w.pa) = _
    rw [if_neg (Ne.symm hp)]
    exact p3
  · have ne : ∀ c ∈ fps.flatten, c ≠ a := fun c hc z => by
      have := (h3 c hc).2.1
      have this : upd w.B a o c = none := this
      rw [z, upd_same] at this
      cases this
    exact SlRs.toW (W := wd X ⟨w.pa, upd w.B a o, w.G0, w.sf⟩) (W' := wd X w) rfl rfl rfl rfl (h1.mono (Sub.refl G) fun c hc u hu => by
      show (if c = a then none else H c) = _
      rw [if_neg (ne c hc)]
      exact hu)
  · obtain ⟨q1, q2, q3⟩ := h3 c hc
    have q2 : upd w.B a o c = none := q2
    refine ⟨q1, ?_, q3⟩
    show w.B c = none
    by_cases z : c = a
    · rw [z]; exact hB
    · rw [upd_ne z] at q2
      exact q2
def tDispT (tk tv : TE) : TE := fun σ H Q => ∀ p, H p = none → tk σ (upd H p (.dT [])) fun x H1 => tv σ H1 fun y H2 => H2 p = some (.dT []) ∧ ∃ b ks, x = .ref b ∧ H2 b = some (.tup (ks.map kV)) ∧ Q (.ref p) (upd H2 p (.dT [(ks, y)]))
theorem pe_dispT {k v : Expr} {tk tv : TE} (hu : X.A.units + 1 < cLine) (hk : PE X k tk) (hv : PE X v tv) : PE X (.Dict [some k] [v] pos) (tDispT tk tv) := by
  refine ⟨fun pins s σ H Q I q => ?_⟩
  have hn := I.hok.fresh (Nat.le_refl s.heap.objs.size)
  have I1 := I.laid (a := s.heap.objs.size) (o := .dT []) (h' := s.heap.push { cls := .type "dict", data := .dict #[] }) (t' := s.toks) (fun _ _ q => Heap.get?_push_of_some _ q) (Nat.le_refl _) (dt_empty s.heap I.big)
  refine wpAny_Dict_any (by rfl) rfl (by simp) (by simp) (pairTrees_cons_walk (thn (hk.run pins _ σ _ _ I1 (q _ hn)) fun u s1 ⟨x, H1, I2, rx, q1⟩ => thn (hv.run pins s1 σ H1 _ I2 q1) fun w2 s2 ⟨y, H2, I3, ry, e, b, ks, ex, eb, q2⟩ => pairTrees_nil_walk ?_))
  subst ex
  cases rx
  unfold storeAll
  rw [List.forIn_cons]
  refine wpAny_bind (wpAny_bind ?_)
  obtain ⟨z, hd, xs, rel, dd⟩ := dt_of I3.hok e
  cases rel
  refine wpAny_dictSet_heap (hsz := by rw [sizeLine_eq]; simp) (show (tupleKind (mixKind X.prog X.w)).room X.A from (show X.A.units < cLine by omega)) (key_of I3.hok eb) dd fun h' dd' hs => wpAny_pure ?_
  refine wpAny_pure ?_
  obtain ⟨q', es, ep, hq, h2, h3, h4, _, h5⟩ := dd'
  have hl : ([(ks, y)] : List (List Key × V)).length ≤ sizeLine := by rw [sizeLine_eq]; simp
  have hO : ObjOk X.prog X.w (upd H2 s.heap.objs.size (.dT [(ks, y)])) h' s.heap.objs.size (.dT [(ks, y)]) :=
    ⟨hl, hd, _, (KT.put (kvs := []) (xs := []) .nil ks eb ry).keeps fun c ys ec => (by
      rw [upd_ne (ne_of ec e (fun z => nomatch z))]
      exact ec), q', es, ep, hq, h2, h3, h4, h5⟩
  exact ⟨.ref s.heap.objs.size, upd H2 s.heap.objs.size (.dT [(ks, y)]), d_write I3 (by rw [e]; exact True.intro) hs ⟨q', hq⟩ hO, rfl, q2⟩
theorem R.unguard {w : Wl} {G H : Hp} {e : Ev} {p : Pen} {σ : L2.St} {a : Addr} {o : HO} (r : R (wd X ⟨w.pa, upd w.B a o, w.G0, w.sf⟩) G e p σ H) (hB : w.B a = none) : R (wd X w) G e p σ H := by
  obtain ⟨fps, h1, h2, h3⟩ := r.sls
  have b := r.base
  have up : ∀ {c : Addr} {u : HO}, w.B c = some u → upd w.B a o c = some u := fun {c u} hc => by
    rw [upd_ne (fun z => by rw [z, hB] at hc; cases hc)]
    exact hc
  have dn : ∀ {c : Addr}, upd w.B a o c = none → w.B c = none := fun {c} hc => by
    cases z : w.B c with
    | none => rfl
    | some u => rw [up z] at hc; cases hc
  refine ⟨⟨b.sub, b.g0, fun c hc => (b.new c hc).imp id dn, fun c u hc hp' ht => b.kept c u (up hc) hp' ht, b.gt, fun c ps z => b.nt c ps (up z), b.tab, b.pen⟩, fps, SlRs.toW (W := wd X ⟨w.pa, upd w.B a o, w.G0, w.sf⟩) (W' := wd X w) rfl rfl rfl rfl h1, h2, fun c hc => ?_⟩
  obtain ⟨q1, q2, q3⟩ := h3 c hc
  exact ⟨q1, dn q2, q3⟩
theorem upd_back {H : Hp} {a : Addr} {o : HO} (h : H a = some o) : upd (fun b => if b = a then none else H b) a o = H := by
  funext b
  by_cases z : b = a
  · subst z
    rw [upd_same, h]
  · rw [upd_ne z, if_neg z]
def ktOne (fk fv : EM) : KtM := fun e p => (fk e p).bind fun k e p => (fv e p).bind fun d e p => match keyT k with
  | some q => .ok [(q, d)] e p
  | none => .bad
theorem ft_one {k v : Expr} {fk fv : EM} (hu : X.A.units + 1 < cLine) (hk : DE X WW k fk) (hv : DE X WW v fv) : PE X (.Dict [some k] [v] pos) (tFT X WW (ktOne fk fv)) := PEw (pe_dispT hu hk hv) fun σ H Q ⟨w, G, e, p, r, q⟩ => fun a ha => by
  have r0 := r.guard (o := .dT []) ha (fun _ z => by cases z)
  obtain ⟨f1, f2, f3⟩ := r.base.free ha
  have g0 : w.G0 a = none := by
    cases z : w.G0 a with
    | none => rfl
    | some u =>
      have := r.base.g0 a u z
      rw [f2] at this
      cases this
  have hsub : ∀ {G1 : Hp}, Sub G G1 → w.G0 a = none := fun _ => g0
  refine ⟨_, G, e, p, r0, ?_⟩
  unfold ktOne at q
  cases hf : fk e p with
  | bad => rw [hf] at q; exact q
  | exc x e1 p1 => rw [hf] at q; exact fun G1 c d H1 s1 r1 => q G1 c d H1 s1 (r1.unguard f1)
  | ok kd e1 p1 =>
    rw [hf] at q
    intro G1 x H1 s1 r1 hx
    refine ⟨_, G1, e1, p1, r1, ?_⟩
    cases hf2 : fv e1 p1 with
    | bad => simp only [Res.bind, hf2] at q; exact q
    | exc x e2 p2 => simp only [Res.bind, hf2] at q; exact fun G2 c d H2 s2 r2 => q G2 c d H2 (s1.trans s2) (r2.unguard f1)
    | ok vd e2 p2 =>
      simp only [Res.bind, hf2] at q
      intro G2 y H2 s2 r2 hy
      split at q
      · rename_i qk hqk
        obtain ⟨hA, hG, r3⟩ := r2.loose f1 g0 f3 soft_dT
        refine ⟨hA, ?_⟩
        have hx2 : RepW (wd X w) G2 x kd := hx.mono s2
        unfold keyT at hqk
        split at hqk
        · cases hx2 with
          | tup hb rb =>
            rename_i b us
            have eb := keysD_rep rb hqk
            rw [eb] at hb
            refine ⟨b, qk, rfl, r2.base.sub _ _ hb, ?_⟩
            have fin := q G2 a (.dT [(qk, y)]) _ (s1.trans s2) r3 (if_pos rfl) ⟨[(qk, y)], rfl, rfl, .cons hy .nil⟩
            have e2 : upd (fun b => if b = a then none else H2 b) a (.dT [(qk, y)]) = upd H2 a (.dT [(qk, y)]) := by
              funext c
              by_cases z : c = a
              · subst z
                rw [upd_same, upd_same]
              · rw [upd_ne z, upd_ne z, if_neg z]
            rw [e2] at fin
            exact fin
        · cases hqk
      · exact q.elim
def sOwnT (f : KtM) (i : Nat) : SM := fun e p => toS (f e p) fun gs e p => .nx (e.set i (some (.dt gs))) p
def sOwnK (f : KkM) (i : Nat) : SM := fun e p => toS (f e p) fun gs e p => .nx (e.set i (some (.dk gs))) p
theorem ownT_w {i : Nat} {ff : KtM} {D : Ends} (σ : L2.St) (H : Hp) (q : tS X WW (sOwnT ff i) D σ H) : tFT X WW ff σ H fun v H1 => D.nx (σ.set i (some v)) H1 := by
  obtain ⟨w, G, e, p, r, q⟩ := q
  refine ⟨w, G, e, p, r, ?_⟩
  unfold sOwnT at q
  cases hf : ff e p with
  | bad => rw [hf] at q; exact q
  | exc x e1 p1 => rw [hf] at q; exact fun G1 c d H1 s1 r1 => q G1 c d σ H1 s1 r1
  | ok gs e1 p1 =>
    rw [hf] at q
    intro G1 a o H1 s1 r1 hn hq
    obtain ⟨fs, ho, hk, hr⟩ := hq
    subst ho
    exact q G1 _ _ s1 (r1.storeObj i hn (.dt upd_same hk hr))
theorem ownK_w {i : Nat} {ff : KkM} {D : Ends} (σ : L2.St) (H : Hp) (q : tS X WW (sOwnK ff i) D σ H) : tFK X WW ff σ H fun v H1 => D.nx (σ.set i (some v)) H1 := by
  obtain ⟨w, G, e, p, r, q⟩ := q
  refine ⟨w, G, e, p, r, ?_⟩
  unfold sOwnK at q
  cases hf : ff e p with
  | bad => rw [hf] at q; exact q
  | exc x e1 p1 => rw [hf] at q; exact fun G1 c d H1 s1 r1 => q G1 c d σ H1 s1 r1
  | ok gs e1 p1 =>
    rw [hf] at q
    intro G1 a o H1 s1 r1 hn hq
    obtain ⟨fs, ho, hk, hr⟩ := hq
    subst ho
    exact q G1 _ _ s1 (r1.storeObj i hn (.dk upd_same hk hr))
theorem ds_ownT {i : Nat} {x : Str} {xp : Pos} {ff : KtM} (hN : X.N.Nodup) (h : PE X a (tFT X WW ff)) (hi : X.N[i]? = some x := by rfl) (hx : Loc X.env.scope x := by first | exact Or.inl rfl | exact Or.inr rfl) (hs : swapsWith a (some (.Name x xp)) pos.line X.env = pure false := by rfl)
    (hf : X.fn x = true ∨ X.env.scope.names.lookup x = some .local := by first | exact Or.inl rfl | exact Or.inr rfl) :
    DS X WW (.Assign [.Name x xp] a pos) (sOwnT ff i) := PSw (ps_set hN hi hx h hs hf) fun D σ H q => ownT_w σ H q
theorem ds_ownK {i : Nat} {x : Str} {xp : Pos} {ff : KkM} (hN : X.N.Nodup) (h : PE X a (tFK X WW ff)) (hi : X.N[i]? = some x := by rfl) (hx : Loc X.env.scope x := by first | exact Or.inl rfl | exact Or.inr rfl) (hs : swapsWith a (some (.Name x xp)) pos.line X.env = pure false := by rfl)
    (hf : X.fn x = true ∨ X.env.scope.names.lookup x = some .local := by first | exact Or.inl rfl | exact Or.inr rfl) :
    DS X WW (.Assign [.Name x xp] a pos) (sOwnK ff i) := PSw (ps_set hN hi hx h hs hf) fun D σ H q => ownK_w σ H q
def sParT (fa : EM) (fb : KtM) (i j : Nat) : SM := fun e p => toS (fa e p) fun x e p => toS (fb e p) fun gs e p => .nx ((e.set i (some (.v x))).set j (some (.dt gs))) p
theorem ds_parT {i j : Nat} {x y : Str} {px py pt pt2 : Pos} {kt k2 : Nat} {fk : KtM} (hc : X.calm = true) (hN : X.N.Nodup) (ha : DE X WW a fa) (hb : PE X b (tFT X WW fk)) (hij : i ≠ j) (hi : X.N[i]? = some x := by rfl) (hj : X.N[j]? = some y := by rfl)
    (hx : X.env.scope.names.lookup x = some .local := by rfl) (hy : X.env.scope.names.lookup y = some .local := by rfl)
    (hs1 : starEach [a, b] X.env = (false, eval a X.env) :: starEach [b] X.env := by rfl) (hs2 : starEach [b] X.env = (false, eval b X.env) :: starEach [] X.env := by rfl)
    (hw : swappedStores [.Tuple [.Name x px, .Name y py] kt pt] (.Tuple [a, b] k2 pt2) X.env = pure (some [x, y]) := by rfl)
    (hs : swapsWithSole [.Tuple [.Name x px, .Name y py] kt pt] (.Tuple [a, b] k2 pt2) pos.line X.env = pure false := by rfl) :
    DS X WW (.Assign [.Tuple [.Name x px, .Name y py] kt pt] (.Tuple [a, b] k2 pt2) pos) (sParT fa fk i j) := PSw (ps_par hc hN hi hj hij hx hy (pa_cons ha (pa_cons hb pa_nil hs2) hs1) hw hs) fun D σ H q =>
  (es_w q).imp fun v H1 ⟨w, G, d, e, p, r, hv, q1⟩ => by
    refine ⟨w, G, e, p, r, ?_⟩
    cases hf : fk e p with
    | bad => rw [hf] at q1; exact q1
    | exc x e3 p3 => rw [hf] at q1; exact fun G1 c d H1 s1 r1 => q1 G1 c d σ H1 s1 r1
    | ok gs e3 p3 =>
      rw [hf] at q1
      intro G3 a o H3 s3 r3 hn hq
      obtain ⟨fs, ho, hk, hr⟩ := hq
      subst ho
      exact ⟨v, .ref a, rfl, q1 G3 _ _ s3 ((r3.store i (hv.mono s3)).storeObj j hn (.dt upd_same hk hr))⟩
def sParL (fa fb : AM) (i j : Nat) : SM := fun e p => toS (fa e p) fun xs e p => toS (fb e p) fun ys e p => .nx ((e.set i (some (.own xs))).set j (some (.own ys))) p
theorem ds_parL {i j : Nat} {x y : Str} {px py pt pt2 : Pos} {kt k2 : Nat} {ga gb : AM} (hc : X.calm = true) (hN : X.N.Nodup) (ha : DF X WW a ga) (hb : DF X WW b gb) (hij : i ≠ j) (hi : X.N[i]? = some x := by rfl) (hj : X.N[j]? = some y := by rfl)
    (hx : X.env.scope.names.lookup x = some .local := by rfl) (hy : X.env.scope.names.lookup y = some .local := by rfl)
    (hs1 : starEach [a, b] X.env = (false, eval a X.env) :: starEach [b] X.env := by rfl) (hs2 : starEach [b] X.env = (false, eval b X.env) :: starEach [] X.env := by rfl)
    (hw : swappedStores [.Tuple [.Name x px, .Name y py] kt pt] (.Tuple [a, b] k2 pt2) X.env = pure (some [x, y]) := by rfl)
    (hs : swapsWithSole [.Tuple [.Name x px, .Name y py] kt pt] (.Tuple [a, b] k2 pt2) pos.line X.env = pure false := by rfl) :
    DS X WW (.Assign [.Tuple [.Name x px, .Name y py] kt pt] (.Tuple [a, b] k2 pt2) pos) (sParL ga gb i j) := PSw (ps_par hc hN hi hj hij hx hy (pa_cons ha (pa_cons hb pa_nil hs2) hs1) hw hs) fun D σ H q => by
  obtain ⟨w, G, e, p, r, q⟩ := q
  refine ⟨w, G, e, p, r, ?_⟩
  unfold sParL at q
  cases hf : ga e p with
  | bad => rw [hf] at q; exact q
  | exc x e1 p1 => rw [hf] at q; exact fun G1 c d H1 s1 r1 => q G1 c d σ H1 s1 r1
  | ok xs e1 p1 =>
    rw [hf] at q
    intro G1 a vs H1 s1 r1 hn hv
    obtain ⟨f1, f2, f3⟩ := r1.base.free hn
    have g0 : w.G0 a = none := by
      cases z : w.G0 a with
      | none => rfl
      | some u =>
        have := r1.base.g0 a u z
        rw [f2] at this
        cases this
    have r2 := r1.guard (o := .lst vs) hn (fun _ z => by cases z)
    refine ⟨_, G1, e1, p1, r2, ?_⟩
    cases hg : gb e1 p1 with
    | bad => simp only [toS, hg] at q; exact q
    | exc x e2 p2 => simp only [toS, hg] at q; exact fun G2 c d H2 s2 r3 => q G2 c d σ H2 (s1.trans s2) (r3.unguard f1)
    | ok ys e2 p2 =>
      simp only [toS, hg] at q
      intro G2 b us H2 s2 r3 hn2 hv2
      obtain ⟨hA, hG, r4⟩ := r3.loose f1 g0 f3 (soft_lst _)
      have r5 := (r4.storeOwn i (if_pos rfl) (hv.mono s2))
      rw [upd_back hA] at r5
      exact ⟨.ref a, .ref b, rfl, q G2 _ _ (s1.trans s2) (r5.storeOwn j hn2 hv2)⟩
end
end Pd

namespace PdV
open PySem PySem.Spec PyProof.Rows L2 LamX
abbrev lamObj (q : Str) (params : Arguments) (body : Expr) (scope : Scope) (cl : List (Str × Addr)) (dV doc pm : Value) (c' : Addr) (ctv : Value) : Obj := PySem.W.kdv_obj "<lambda>" q params (.expr body) scope cl dV doc pm c' ctv
def LamO (f : Addr) (q : Str) (params : Arguments) (body : Expr) (scope : Scope) (cl : List (Str × Addr)) (dV : Value) (c' : Addr) : HO := .ext fun h => ∃ doc pm ctv, h.get? f = some (lamObj q params body scope cl dV doc pm c' ctv)
theorem lamO_ok {P : Program} {w : World} {H : Hp} {h : Heap} {f : Addr} {q : Str} {params : Arguments} {body : Expr} {scope : Scope} {cl : List (Str × Addr)} {dV doc pm ctv : Value} {c' : Addr} (e : h.get? f = some (lamObj q params body scope cl dV doc pm c' ctv)) : ObjOk P w H h f (LamO f q params body scope cl dV c') :=
  ⟨⟨doc, pm, ctv, e⟩, ⟨_, e⟩, fun h1 h2 ⟨d, p, c, z⟩ k => ⟨d, p, c, k _ z⟩⟩
section
variable {X : Cx} {pins : List (Addr × Obj)} {σ : L2.St} {H : Hp} {s : Shared}
theorem make_tail {T : List (Addr × Str)} {c P : Addr} {params : Arguments} {body : Expr} {scope : Scope} {pos : Pos} {dV : Value} {E : Value → Shared → Prop} {Q : Value → Shared → Prop} (I : Inv X pins σ H s) (TB : TabB X.base X.mg c P) (hcode : X.env.code = .ref c)
    (hm : (P, X.env.qual ++ "<lambda>") ∈ T) (hu : ∀ p ∈ T, p.1 = P → p.2 = X.env.qual ++ "<lambda>") (hT : Tabs T H) (hfree : ∀ y ∈ scope.names, y.2 = .free → ∃ c, X.env.cells.lookup y.1 = some c)
    (h : ∀ (f c' : Addr) (H1 : Hp) (s' : Shared), Inv X pins σ H1 s' → ExtN H H1 → Tabs T H1 → H f = none → f ≠ P → (∀ p ∈ T, p.1 ≠ f) →
      H1 f = some (LamO f (X.env.qual ++ "<lambda>") params body scope (cloFrom X.env.cells scope.names []) dV c') → H1 c' = some (CodeO c' (X.env.qual ++ "<lambda>")) → Q (.ref f) s') :
    wpAny (model X.prog X.w) X.A (makeTail "<lambda>" (X.env.qual ++ "<lambda>") params (.expr body) scope X.env dV .none none pos pos.line) Q E s := by
  obtain ⟨ps, hP, ht, ha⟩ := hT _ hm
  have bP : s.heap.BuiltinsAt X.mg P := TB.bm.keeps I.bk
  have hP' : s.heap.get? P = some { cls := .none, data := .fields ps } := I.hok P _ hP
  have tabNe : ∀ f, H f = none → ∀ p ∈ T, p.1 ≠ f := fun f hf p hp z => by
    obtain ⟨ps', a1, _⟩ := hT p hp
    rw [z, hf] at a1
    cases a1
  cases hc : codeAmong pos ps.toList with
  | none =>
    refine PySem.W.kdv_makeTail (mg := X.mg) (c := c) (P := P) (ps := ps) (closure_ok hfree) I.ok.glob (I.mod.glob.keeps I.bk) hcode (TB.code.keeps I.bk) hP' ht hc TB.gP bP fun c' ctv doc h' tk hx hge hlt hrec htb => ?_
    obtain ⟨c2, oc, vs, t, e2, hoc, hd, hv⟩ := hrec
    cases e2
    have hsz : s.heap.objs.size ≤ h'.objs.size := Nat.le_trans hge (Nat.le_of_lt hlt)
    have nC : H c' = none := I.hok.fresh hge
    have nF : H h'.objs.size = none := I.hok.fresh hsz
    have I1 := inv_table (t' := tk) (more := #[rawInt pos.line, rawInt pos.col, .ref c']) (h' := h') I hP
      (fun b o hb e => hx b o hb e) htb hge ⟨oc, vs, t, hoc, hd, hv⟩
    have ne : c' ≠ h'.objs.size := Nat.ne_of_lt hlt
    have neP : P ≠ h'.objs.size := fun z => by rw [← z, hP] at nF; cases nF
    have I2 := I1.laid (a := h'.objs.size) (o := LamO h'.objs.size (X.env.qual ++ "<lambda>") params body scope (cloFrom X.env.cells scope.names []) dV c') (t' := tk)
      (h' := h'.push (lamObj (X.env.qual ++ "<lambda>") params body scope (cloFrom X.env.cells scope.names []) dV doc ((X.mg "__name__").getD .none) c' ctv)) (fun b o e => Heap.get?_push_of_some _ e) (Nat.le_refl _) (lamO_ok (Heap.get?_push_size _ rfl))
    have hE : ExtN H (upd (upd (upd H P (.tbl (ps ++ #[rawInt pos.line, rawInt pos.col, .ref c']))) c' (CodeO c' (X.env.qual ++ "<lambda>"))) h'.objs.size (LamO h'.objs.size (X.env.qual ++ "<lambda>") params body scope (cloFrom X.env.cells scope.names []) dV c')) := fun b o e n => by
      rw [upd_ne (ne_of_none e nF), upd_ne (ne_of_none e nC), upd_ne (fun z => n ps (Option.some.inj (e.symm.trans (by rw [z]; exact hP))))]
      exact e
    have eL : (ps ++ #[rawInt pos.line, rawInt pos.col, .ref c']).toList = ps.toList ++ [rawInt pos.line, rawInt pos.col, .ref c'] := by simp
    refine h h'.objs.size c' _ _ I2 hE (fun p hp => ?_) nF (Ne.symm neP) (tabNe _ nF) upd_same (by rw [upd_ne ne, upd_same])
    by_cases hb : p.1 = P
    · rw [hu p hp hb, hb]
      refine ⟨_, by rw [upd_ne neP, upd_ne (ne_of_none hP nC), upd_same], by rw [eL]; exact PySem.TriplesOk_snoc _ _ _ _ ht, fun p' cv hcv => ?_⟩
      rw [eL] at hcv
      rcases among_app _ ht hcv with z | z
      · obtain ⟨c0, e1, e2⟩ := ha p' cv z
        exact ⟨c0, e1, hE _ _ e2 codeO_ne⟩
      · exact ⟨c', z, by rw [upd_ne ne, upd_same]⟩
    · obtain ⟨ps', a1, a2, a3⟩ := hT p hp
      refine ⟨ps', by rw [upd_ne (ne_of_none a1 nF), upd_ne (ne_of_none a1 nC), upd_ne hb]; exact a1, a2, fun p' cv hcv => ?_⟩
      obtain ⟨c0, e1, e2⟩ := a3 p' cv hcv
      exact ⟨c0, e1, hE _ _ e2 codeO_ne⟩
  | some cv =>
    obtain ⟨c', e, hco⟩ := ha pos cv hc
    subst e
    refine PySem.W.kdv_makeTailHit (mg := X.mg) (c := c) (P := P) (ps := ps) (closure_ok hfree) I.ok.glob (I.mod.glob.keeps I.bk) hcode (TB.code.keeps I.bk) hP' ht hc bP fun ctv doc h' tk hx hsz => ?_
    have I1 : Inv X pins σ H { s with heap := h', toks := tk } := I.kept hx
    have nF : H h'.objs.size = none := I.hok.fresh hsz
    have I2 := I1.laid (a := h'.objs.size) (o := LamO h'.objs.size (X.env.qual ++ "<lambda>") params body scope (cloFrom X.env.cells scope.names []) dV c') (t' := tk)
      (h' := h'.push (lamObj (X.env.qual ++ "<lambda>") params body scope (cloFrom X.env.cells scope.names []) dV doc ((X.mg "__name__").getD .none) c' ctv)) (fun b o e => Heap.get?_push_of_some _ e) (Nat.le_refl _) (lamO_ok (Heap.get?_push_size _ rfl))
    have hE : ExtN H (upd H h'.objs.size (LamO h'.objs.size (X.env.qual ++ "<lambda>") params body scope (cloFrom X.env.cells scope.names []) dV c')) := fun b o e n => by
      rw [upd_ne (ne_of_none e nF)]
      exact e
    refine h h'.objs.size c' _ _ I2 hE (hT.ext (fun b o e => by rw [upd_ne (ne_of_none e nF)]; exact e)) nF (fun z => by rw [z, hP] at nF; cases nF) (tabNe _ nF) upd_same (hE _ _ hco codeO_ne)
theorem make0 {T : List (Addr × Str)} {c P : Addr} {params : Arguments} {body : Expr} {scope : Scope} {pos : Pos} {E : Value → Shared → Prop} {Q : Value → Shared → Prop} (I : Inv X pins σ H s) (TB : TabB X.base X.mg c P) (hcode : X.env.code = .ref c)
    (hm : (P, X.env.qual ++ "<lambda>") ∈ T) (hu : ∀ p ∈ T, p.1 = P → p.2 = X.env.qual ++ "<lambda>") (hT : Tabs T H) (hdef : defaultsOf params X.env = ([], [])) (hfree : ∀ y ∈ scope.names, y.2 = .free → ∃ c, X.env.cells.lookup y.1 = some c)
    (h : ∀ (f c' : Addr) (H1 : Hp) (s' : Shared), Inv X pins σ H1 s' → ExtN H H1 → Tabs T H1 → H f = none → f ≠ P → (∀ p ∈ T, p.1 ≠ f) →
      H1 f = some (LamO f (X.env.qual ++ "<lambda>") params body scope (cloFrom X.env.cells scope.names []) .none c') → H1 c' = some (CodeO c' (X.env.qual ++ "<lambda>")) → Q (.ref f) s') :
    wpAny (model X.prog X.w) X.A (eval (.Lambda params body scope pos) X.env) Q E s := by
  refine PySem.W.kla_eval hdef ?_
  rw [makeFunction_eq]
  simp only [List.zip_nil_right, List.filterMap_nil, List.isEmpty_nil, if_true, pure_bind]
  exact make_tail I TB hcode hm hu hT hfree h
theorem make1 {T : List (Addr × Str)} {c P : Addr} {params : Arguments} {body : Expr} {scope : Scope} {pos cp : Pos} {i : Int} {j : Nat} {Q : Value → Shared → Prop} (I : Inv X pins σ H s) (TB : TabB X.base X.mg c P) (hcode : X.env.code = .ref c)
    (hm : (P, X.env.qual ++ "<lambda>") ∈ T) (hu : ∀ p ∈ T, p.1 = P → p.2 = X.env.qual ++ "<lambda>") (hT : Tabs T H) (hd : params.defaults = [.Constant (.int i) j cp]) (hk0 : params.kw_defaults = []) (hfree : ∀ y ∈ scope.names, y.2 = .free → ∃ c, X.env.cells.lookup y.1 = some c)
    (h : ∀ (f c' dt : Addr) (H1 : Hp) (s' : Shared), Inv X pins σ H1 s' → ExtN H H1 → Tabs T H1 → H f = none → f ≠ P → (∀ p ∈ T, p.1 ≠ f) → H1 dt = some (.tup [.int i]) →
      H1 f = some (LamO f (X.env.qual ++ "<lambda>") params body scope (cloFrom X.env.cells scope.names []) (.ref dt) c') → H1 c' = some (CodeO c' (X.env.qual ++ "<lambda>")) → Q (.ref f) s') :
    wpAny (model X.prog X.w) X.A (eval (.Lambda params body scope pos) X.env) Q X.xe s := by
  refine PySem.W.kdv_lam (by rw [hd]; rfl) hk0 ?_
  rw [hd]
  refine PySem.W.kdv_all1 (thn ((pe_int (X := X) (pos := cp) (i := i) (j := j)).run pins s σ H (fun v H1 => v = .int i ∧ H1 = H) I ⟨rfl, rfl⟩) fun u s1 hz => ?_)
  · obtain ⟨v, H1, I1, ru, ev, eH⟩ := hz
    subst ev eH
    obtain ⟨t, rfl⟩ := ru
    refine PySem.W.kdv_all0 ?_
    rw [makeFunction_eq]
    simp only [List.zip_nil_right, List.filterMap_nil, List.isEmpty_nil, if_true, pure_bind, List.isEmpty_cons, Bool.false_eq_true, if_false]
    refine wpAny_bind (wpAny_newTextTuple ?_)
    have I2 := I1.laid (a := s1.heap.objs.size) (o := .tup [.int i]) (t' := s1.toks) (h' := s1.heap.push { cls := .type "tuple", data := .seq [Value.int i t].toArray }) (fun b o e => Heap.get?_push_of_some _ e) (Nat.le_refl _)
      ⟨by show 1 ≤ sizeLine; decide, [.int i t], .cons ⟨t, rfl⟩ .nil, IsTup.new _ _⟩
    have nT : H1 s1.heap.objs.size = none := I1.hok.fresh (Nat.le_refl _)
    have hE0 : ∀ b o, H1 b = some o → upd H1 s1.heap.objs.size (.tup [.int i]) b = some o := fun b o e => by rw [upd_ne (ne_of_none e nT)]; exact e
    refine make_tail I2 TB hcode hm hu (hT.ext hE0) hfree fun f c' H2 s' J1 J2 J3 J4 J5 J6 J7 J8 => ?_
    have nf : H1 f = none := by
      cases z : H1 f with
      | none => rfl
      | some o => rw [hE0 _ _ z] at J4; cases J4
    exact h f c' _ H2 s' J1 ((ExtN.of hE0).trans J2) J3 nf J5 J6 (J2 _ _ upd_same (fun _ z => by cases z)) J7 J8
end
structure LamS2 (N : List Str) (sc scope : Scope) : Prop where
  kind : scope.kind = .function
  co : scope.isCoroutine = false
  gen : scope.isGenerator = false
  nocell : ∀ y ∈ scope.names, y.2 ≠ .cell
  loc : ∀ y ∈ N, scope.names.lookup y ≠ some .local
  free : ∀ y ∈ scope.names, y.2 = .free → sc.names.lookup y.1 = some .cell ∨ sc.names.lookup y.1 = some .free
def lamSB2 (N : List Str) (sc scope : Scope) : Bool :=
  decide (scope.kind = .function) && !scope.isCoroutine && !scope.isGenerator && (scope.names.all fun y => !decide (y.2 = .cell) && (!decide (y.2 = .free) || decide (sc.names.lookup y.1 = some .cell) || decide (sc.names.lookup y.1 = some .free))) && N.all fun y => !decide (scope.names.lookup y = some .local)
theorem lamS2_by {N : List Str} {sc scope : Scope} (h : lamSB2 N sc scope = true) : LamS2 N sc scope := by
  unfold lamSB2 at h
  simp only [Bool.and_eq_true, Bool.or_eq_true, Bool.not_eq_true', decide_eq_true_eq, decide_eq_false_iff_not, List.all_eq_true] at h
  obtain ⟨⟨⟨⟨h1, h2⟩, h3⟩, h4⟩, h5⟩ := h
  refine ⟨h1, h2, h3, fun y hy => (h4 y hy).1, h5, fun y hy e => ?_⟩
  rcases (h4 y hy).2 with (z | z) | z
  · exact absurd e z
  · exact .inl z
  · exact .inr z
theorem LamS2.has {X : Cx} {scope : Scope} (L : LamS2 X.N X.env.scope scope) (ok : X.Ok) : ∀ y ∈ scope.names, y.2 = .free → ∃ c, X.env.cells.lookup y.1 = some c := fun y hy e => by
  rcases L.free y hy e with k | k
  · exact ok.has _ (.inl k)
  · exact ok.has _ (.inr k)
section
variable {X : Cx} {pins : List (Addr × Obj)} {σ : L2.St} {H HZ : Hp} {s s1 : Shared}
theorem lam_start3 {A : Around} {outer : List Env} {E : XK} {scope : Scope} {f c' : Addr} {h₁ : Heap} {tk : Nat} {binds : List (Str × Value)} (I : Inv X pins σ H s) (L : LamS2 X.N X.env.scope scope) (e0 : Env0 X.prog X.w X.K X.mg X.base A outer s1 HZ) (hd : A.handled = none)
    (un : Un (frs X.stack) [] H HZ s.heap s1.heap) (hns : h₁.Ns s1.heap.objs.size fun y => binds.reverse.lookup y) (kp : ∀ b o, s1.heap.get? b = some o → h₁.get? b = some o) :
    Inv (lamCx X A outer s1 HZ E scope f c') [] σ HZ { s1 with heap := h₁, toks := tk } := by
  have hfree := L.has I.ok
  have cm : ∀ {y c}, (cloFrom X.env.cells scope.names []).lookup y = some c → X.env.cells.lookup y = some c := fun {y c} e => by
    rcases cloFrom_mem (PySem.mem_of_lookup e) with hm | ⟨h1, h2⟩
    · cases hm
    · obtain ⟨c1, hc⟩ := hfree _ h1 rfl
      have hc : X.env.cells.lookup y = some c1 := hc
      have e2 : c = c1 := by
        rw [h2, hc] <;> rfl
      rw [e2]
      exact hc
  have look : ∀ {y}, scope.names.lookup y = some .free → ∃ c, (cloFrom X.env.cells scope.names []).lookup y = some c := fun {y} hl => by
    have hy : (y, NameKind.free) ∈ scope.names := PySem.mem_of_lookup hl
    exact mem_lookup (cloFrom_has (cells := X.env.cells) (acc := []) hy)
  have cellK : ∀ {c : Addr} {v : Option Value}, H c = none → s.heap.IsCell c v → h₁.IsCell c v := fun {c v} n ⟨o, ho, hd⟩ => by
    obtain ⟨sl, q⟩ := un.any ho n (by simp)
    exact ⟨_, kp _ _ q, hd⟩
  have noA : ∀ b : Addr, b ∉ (lamCx X A outer s1 HZ E scope f c').ex := fun b z => absurd (show b ∈ ([] : List Addr) from z) (by simp)
  refine ⟨⟨e0.mod, L.kind, rfl, rfl, Nat.le_refl _, fun y z c e1 e2 => I.ok.inj y z c (cm e1) (cm e2), fun y hy => ?_, fun y c z _ => ?_, fun _ => hd, Around.frames_deeper e0.frames, .inr ⟨rfl, rfl⟩, fun b z => absurd z (noA b), e0.bs, e0.bsz, fun b _ _ => noA b,
      fun b z => absurd z (noA b), e0.funs, e0.frf⟩,
    rfl, e0.bare, Un.kept kp, ⟨_, hns, fun i y v e1 e2 e3 => ?_⟩, fun y c e => ?_, e0.hok.fresh (Nat.le_refl _), fun y c e => ?_, fun q hq => absurd (show q ∈ ([] : List (Addr × Obj)) ++ [] from hq) (by simp), e0.hok.kept kp, I.len⟩
  · have hy : scope.names.lookup y = some .cell ∨ scope.names.lookup y = some .free := hy
    rcases hy with hy | hy
    · exact absurd rfl (L.nocell _ (PySem.mem_of_lookup hy))
    · exact look hy
  · have z : false = true := z
    cases z
  · have e3 : Vis scope y := e3
    rcases e3 with k | k | k
    · exact absurd k (L.loc y (List.mem_of_getElem? e1))
    · exact absurd rfl (L.nocell _ (PySem.mem_of_lookup k))
    · obtain ⟨m, hn, hl⟩ := I.loc
      have hvis : Vis X.env.scope y := (L.free _ (PySem.mem_of_lookup k) rfl).elim (fun k => .inr (.inl k)) (fun k => .inr (.inr k))
      obtain ⟨w', r, q⟩ := hl i y v e1 e2 hvis
      obtain ⟨c2, h2⟩ := look k
      refine ⟨w', r, .inr ⟨.inr k, c2, h2, ?_⟩⟩
      have c1 := cm h2
      rcases q with ⟨k', _⟩ | ⟨_, c3, e', z⟩
      · have k' : X.env.scope.names.lookup y = some .local := k'
        rcases L.free _ (PySem.mem_of_lookup k) rfl with k2 | k2 <;> rw [show X.env.scope.names.lookup y = _ from k2] at k' <;> cases k'
      · rw [c1] at e'
        cases e'
        exact cellK (I.freeC y _ c1) z
  · obtain ⟨w', z⟩ := I.cell y c (cm e)
    exact ⟨w', cellK (I.freeC y c (cm e)) z⟩
  · obtain ⟨v, o, ho, hd⟩ := I.cell y c (cm e)
    exact un.free c o ho (I.freeC y c (cm e)) (by simp)
def DvZ (HZ : Hp) (dV : Value) : Prop := dV = .none ∨ ∃ (dt : Addr) (i : Int), dV = .ref dt ∧ HZ dt = some (.tup [.int i])
def LBind (q : Str) (params : Arguments) (body : Expr) (scope : Scope) (dV : Value) : Prop := ∀ (cl : List (Str × Addr)) (doc pm cv ctv : Value) (s : Shared), (∀ dt, dV = .ref dt → ∃ i t, IsTup s.heap dt #[.int i t]) →
  ∃ binds, BindsTo s (PySem.W.kdv_fn "<lambda>" q params (.expr body) scope cl dV doc pm cv ctv) ⟨[], []⟩ binds ∧ ∀ y ∈ binds, scope.names.lookup y.1 = some .local
theorem pe_act2 {CXg : CXT} {Eg : XK} {Ng : List Str} {qg : Str} {sg : Scope} {g f c' : Addr} {cdg dV : Value} {params : Arguments} {body : Expr} {scope : Scope} {k i : Nat} {a : Str} {pn : List (Addr × Obj)} {xe : Value → Shared → Prop} {W : WX} {E : XK} {tb : TE} {p1 p2 : Pos}
    (I : Inv X pins σ H s) (L : LamS2 X.N X.env.scope scope) (hb : LBind (X.env.qual ++ "<lambda>") params body scope dV)
    (tk : Takes ((cxOf CXg X.prog X.w X.K X.mg X.base Ng qg sg g cdg X.A X.stack s H Eg).tr pn xe) W) (hW : ∀ cls d σ' H', E cls d H' → W cls d σ' H') (hr : Room (k + 1) (X.A.deeper (envOfC qg sg s.heap.objs.size g cdg)))
    (hbody : ∀ (A : Around) (outer : List Env) (s : Shared) (H : Hp), Room k (A.deeper (lamEnv X scope s.heap.objs.size f c')) → PE (lamCx X A outer s H E scope f c') body tb)
    (hN : Ng[i]? = some a) (hv : Vis sg a) (hd : (a == ("__debug__" : Str)) = false := by decide) (hcd : (a == ("__classdict__" : Str)) = false := by decide) :
    PE ((cxOf CXg X.prog X.w X.K X.mg X.base Ng qg sg g cdg X.A X.stack s H Eg).tr pn xe) (.Call (.Name a p1) [] [] p2)
      (fun σZ HZ Q => σZ[i]? = some (some (.ref f)) ∧ HZ c' = some (CodeO c' (X.env.qual ++ "<lambda>")) ∧ (HZ f = some (LamO f (X.env.qual ++ "<lambda>") params body scope (cloFrom X.env.cells scope.names []) dV c') ∧ DvZ HZ dV) ∧ tb σ HZ Q) := by
  refine ⟨fun pinsZ sZ σZ HZ Q IZ h => ?_⟩
  obtain ⟨hs, hc, ⟨hl, hz⟩, ht⟩ := h
  refine wpAny_Call_Name_kw (thn ((pe_var (pos := p1) (i := i) hN hv hd hcd).run pinsZ sZ σZ HZ (fun v H1 => v = .ref f ∧ H1 = HZ) IZ ⟨.ref f, hs, rfl, rfl⟩) fun u s1 ⟨v, H1, I1, r1, q1⟩ => ?_)
  obtain ⟨ev, eH⟩ := q1
  subst ev
  rw [eH] at I1
  obtain rfl : u = Value.ref f := r1
  obtain ⟨⟨doc, pm, ctv, of1⟩, _, _⟩ := I1.hok f _ hl
  refine PySem.W.callWith_F0 ⟨_, _, _, _, of1⟩ ?_
  have un : Un (frs X.stack) [] H HZ s.heap s1.heap := I1.base
  obtain ⟨⟨oc, vs, t, hoc, hdc, hvc⟩, _, _⟩ := I1.hok c' _ hc
  obtain ⟨binds, hbd, hbl⟩ := hb (cloFrom X.env.cells scope.names []) doc pm (.ref c') ctv s1 (fun dt e => by
    rcases hz with z | ⟨dt', i', z, zt⟩
    · rw [z] at e; cases e
    · rw [z] at e
      cases e
      obtain ⟨_, its, rv, ho⟩ := (show ObjOk X.prog X.w HZ s1.heap dt (.tup [.int i']) from I1.hok dt _ zt)
      cases rv with
      | cons r0 rt =>
        cases rt
        obtain ⟨t0, rfl⟩ := r0
        exact ⟨i', t0, ho⟩)
  have rc : codeAny (model X.prog X.w) (X.A.deeper (envOfC qg sg s.heap.objs.size g cdg)) (.call (.ref f) ⟨[], []⟩) (CR (L2.CX X.prog X.w) (envOfC qg sg s.heap.objs.size g cdg :: X.stack) X.prog X.w HZ s1 Q E) s1 := by
    refine PySem.W.kla_callFunE hr.depth of1 rfl L.co L.gen rfl ⟨c', oc, vs, t, rfl, hoc, hdc, hvc⟩ (hbd _ _ _ _ ?_)
    refine wpAny_newFunctionEnv L.nocell hbl (fun h₁ hns hsb => ⟨I1.nolimit.fresh _ hsb, ?_⟩) L.kind
    show codeAny _ _ (.expr body (lamEnv X scope s1.heap.objs.size f c')) _ _
    have kp : ∀ b o, s1.heap.get? b = some o → h₁.get? b = some o := fun b o e => hsb.extBut b o (Nat.ne_of_lt (Heap.lt_size e)) (Heap.get?_push_of_some _ e)
    have J : Inv (lamCx X (X.A.deeper (envOfC qg sg s.heap.objs.size g cdg)) (envOfC qg sg s.heap.objs.size g cdg :: X.stack) s1 HZ E scope f c') [] σ HZ { s1 with heap := h₁, toks := s1.toks + binds.length } :=
      lam_start3 I L I1.env0 hr.hd un hns kp
    refine PySem.W.kla_codeExpr (wpAny_mono ((hbody _ _ s1 HZ (hr.deeper _)).run [] _ _ HZ Q J ht) (fun v s' hq => ?_) fun e s' hq => hq)
    obtain ⟨w', H', J', rv, q⟩ := hq
    exact ⟨w', H', J'.os, J'.bare, J'.base, J'.hok, rv, q⟩
  have hx : Passes (L2.CX X.prog X.w) ((cxOf CXg X.prog X.w X.K X.mg X.base Ng qg sg g cdg X.A X.stack s H Eg).tr pn xe) E := passes_call tk hW
  refine wpAny_call (codeAny_mono rc fun r s' hq => ?_)
  cases r with
  | error e => exact hx pinsZ σZ HZ s1 e s' I1 hq
  | ok fl =>
    cases fl with
    | ret u => exact I1.after hq
    | next => exact False.elim hq
    | brk => exact False.elim hq
    | cont => exact False.elim hq
end
section
variable {X : Cx}
def tTellV (i : Nat) (q : Str) (params : Arguments) (body : Expr) (scope : Scope) (X : Cx) (TT : (XK → Hp → VK → Prop) → Hp → VK → Prop) (t : XK → TE) : TE := fun σ H Q => ∃ f c' dV, σ[i]? = some (some (.ref f)) ∧ H c' = some (CodeO c' q) ∧
  H f = some (LamO f q params body scope (cloFrom X.env.cells scope.names []) dV c') ∧ DvZ H dV ∧ LBind q params body scope dV ∧ TT (fun E H' Q' => (H' f = some (LamO f q params body scope (cloFrom X.env.cells scope.names []) dV c') ∧ DvZ H' dV) ∧ t E σ H' Q') H Q
theorem pe_tellV {TT : (XK → Hp → VK → Prop) → Hp → VK → Prop} {x a v : Str} {g : Addr} {k i : Nat} {pg : Arguments} {bg : List Stmt} {sg : Scope} {dV kV doc pm cdv ct oc : Value} {an od : Option Addr} {osl : Array (Option Value)} {Ng : List Str}
    {params : Arguments} {body : Expr} {scope : Scope} {t : XK → TE} {p vp pos : Pos} (hg : Gl X x) (hm : X.mg x = some (.ref g)) (hk : PySem.W.keepIn X.K (.ref g) = true)
    (lk : X.K.lookup g = some ⟨oc, od, .func (PySem.W.fnOf x x pg bg sg dV kV doc pm an cdv ct), osl⟩) (hcg : PySem.W.codeIn X.K cdv x = true) (hb : L2.Binds X.K (PySem.W.fnOf x x pg bg sg dV kV doc pm an cdv ct) [a] []) (Sg : FnScope Ng [a] sg) (hNg : Ng[0]? = some a) (hva : Vis sg a)
    (hG : GivesTo X Ng x sg g cdv bg a (X.env.qual ++ "<lambda>") TT) (hr : Room (k + 2) X.A) (L : LamS2 X.N X.env.scope scope)
    (hbody : ∀ (A : Around) (outer : List Env) (s : Shared) (H : Hp) (E : XK) (f c' : Addr), Room k (A.deeper (lamEnv X scope s.heap.objs.size f c')) → PE (lamCx X A outer s H E scope f c') body (t E))
    (hNv : X.N[i]? = some v) (hvv : Vis X.env.scope v) (hvd : (v == ("__debug__" : Str)) = false := by decide) (hvcd : (v == ("__classdict__" : Str)) = false := by decide)
    (hdb : (x == ("__debug__" : Str)) = false := by decide) (hd : (a == ("__debug__" : Str)) = false := by decide) (hcd : (a == ("__classdict__" : Str)) = false := by decide) :
    PE X (.Call (.Name x p) [.Name v vp] [] pos) (tTellV i (X.env.qual ++ "<lambda>") params body scope X TT t) := by
  refine ⟨fun pins s σ H Q I h => ?_⟩
  obtain ⟨f, c', dW, h1, h2, h3, h4, h5, h6⟩ := h
  refine wpAny_Call_Name_kw (ld_glob I hg hm ?_ hdb)
  refine PySem.W.callWith_K (h₀ := X.base) I.ok.mod.kin hk (thn ((pa_cons (pe_var (pos := vp) hNv hvv hvd hvcd) pa_nil).run pos pins s σ H (fun vs H1 => vs = [.ref f] ∧ H1 = H) I ⟨.ref f, h1, rfl, rfl⟩) fun us s' ⟨vs, H1, I1, rv, q⟩ => ⟨I1.kIn, ?_⟩) (by rfl) (by rfl)
  obtain ⟨e1, e2⟩ := q
  subst e1 e2
  cases rv with
  | cons r0 rt =>
    cases rt
    cases r0
    have rc : codeAny (model X.prog X.w) X.A (.call (.ref g) ⟨[.ref f], []⟩) (CR C8.CX0 X.stack X.prog X.w H1 s' Q C8.E0) s' := by
      refine run_ofS (N := Ng) (ps := [a]) (us := [.ref f]) (vs := [.ref f]) lk hcg Sg hr I1.env0 (hb s' [.ref f] I1.kIn rfl) (.cons rfl .nil) rfl fun hr' => ?_
      obtain ⟨t', ht', hq'⟩ := hG f c' s' H1 Q (fun E H' Q' => (H' f = some (LamO f (X.env.qual ++ "<lambda>") params body scope (cloFrom X.env.cells scope.names []) dW c') ∧ DvZ H' dW) ∧ t E σ H' Q')
        (fun W pn xe E p1 p2 tk hW => pe_act2 (i := 0) I1 L h5 tk hW hr' (fun A outer s H hr2 => hbody A outer s H E f c' hr2) hNg hva hd hcd) h2 h6
      exact ⟨t', ht'.nox, hq'⟩
    refine wpAny_call (codeAny_mono rc fun r s2 hq => ?_)
    cases r with
    | error e => exact (show False from hq).elim
    | ok fl =>
      cases fl with
      | ret u => exact I1.after hq
      | next => exact False.elim hq
      | brk => exact False.elim hq
      | cont => exact False.elim hq
end
end PdV

namespace PdV
open PySem PySem.Spec PyProof.Rows L2 LamX Pd
structure LS where
  params : Arguments
  body : Expr
  scope : Scope
  pos : Pos
def LS.e (l : LS) : Expr := .Lambda l.params l.body l.scope l.pos
structure LOk (X : Cx) (q : Str) (l : LS) : Prop where
  sc : LamS2 X.N X.env.scope l.scope
  df : (defaultsOf l.params X.env = ([], []) ∧ LBind q l.params l.body l.scope .none) ∨ ∃ i j cp, l.params.defaults = [.Constant (.int i) j cp] ∧ l.params.kw_defaults = [] ∧ ∀ dt, LBind q l.params l.body l.scope (.ref dt)
abbrev lamO (X : Cx) (q : Str) (l : LS) (f : Addr) (dV : Value) (c' : Addr) : HO := LamO f q l.params l.body l.scope (cloFrom X.env.cells l.scope.names []) dV c'
def tMk (X : Cx) (q : Str) (l : LS) : TE := fun σ H Q => Tabs tabsT H ∧ ∀ f c' dV H1, ExtN H H1 → Tabs tabsT H1 → H1 f = some (lamO X q l f dV c') → H1 c' = some (CodeO c' q) → DvZ H1 dV → LBind q l.params l.body l.scope dV → Q (.ref f) H1
section
variable {X : Cx} {WW : WX} {P c : Addr}
theorem pe_mk {l : LS} (TB : TabB X.base X.mg c P) (hcode : X.env.code = .ref c) (hm : (P, X.env.qual ++ "<lambda>") ∈ tabsT) (hu : ∀ p ∈ tabsT, p.1 = P → p.2 = X.env.qual ++ "<lambda>") (ok : LOk X (X.env.qual ++ "<lambda>") l) : PE X l.e (tMk X (X.env.qual ++ "<lambda>") l) := by
  refine ⟨fun pins s σ H Q I h => ?_⟩
  obtain ⟨hT, h⟩ := h
  rcases ok.df with ⟨hd, hb⟩ | ⟨i, j, cp, hd, hk, hb⟩
  · exact make0 I TB hcode hm hu hT hd (ok.sc.has I.ok) fun f c' H1 s' I1 x1 t1 n1 _ _ h1 h2 => ⟨.ref f, H1, I1, rfl, h f c' .none H1 x1 t1 h1 h2 (.inl rfl) hb⟩
  · exact make1 I TB hcode hm hu hT hd hk (ok.sc.has I.ok) fun f c' dt H1 s' I1 x1 t1 n1 _ _ hdt h1 h2 => ⟨.ref f, H1, I1, rfl, h f c' (.ref dt) H1 x1 t1 h1 h2 (.inr ⟨dt, i, rfl, hdt⟩) (hb dt)⟩
def tMks (X : Cx) (q : Str) : List LS → TA
  | [] => tNil
  | l :: ls => tCons (tMk X q l) (tMks X q ls)
theorem pa_mks (TB : TabB X.base X.mg c P) (hcode : X.env.code = .ref c) (hm : (P, X.env.qual ++ "<lambda>") ∈ tabsT) (hu : ∀ p ∈ tabsT, p.1 = P → p.2 = X.env.qual ++ "<lambda>") : ∀ {ls : List LS}, (∀ l ∈ ls, LOk X (X.env.qual ++ "<lambda>") l) → PA X (ls.map LS.e) (tMks X (X.env.qual ++ "<lambda>") ls)
  | [], _ => pa_nil
  | l :: ls, h => pa_cons (pe_mk TB hcode hm hu (h l (by simp))) (pa_mks TB hcode hm hu fun x hx => h x (by simp [hx])) (by rfl)
def Kn (w : Wl) (G : Hp) (a : Addr) (o : HO) : Prop := G a = some o ∨ (w.B a = some o ∧ a ≠ w.pa)
def Fx (o : HO) : Prop := (∃ φ, o = .ext φ) ∨ ∃ xs, o = .tup xs
theorem Kn.mono {w : Wl} {G G' : Hp} {a : Addr} {o : HO} (k : Kn w G a o) (s : Sub G G') : Kn w G' a o := k.imp (s _ _) id
theorem Fx.nt {o : HO} (h : Fx o) : ∀ ps, o ≠ .tbl ps := fun ps z => by
  rcases h with ⟨φ, e⟩ | ⟨xs, e⟩ <;> rw [e] at z <;> cases z
theorem Kn.at_ {w : Wl} {G H : Hp} {e : Ev} {p : Pen} {σ : L2.St} {a : Addr} {o : HO} (k : Kn w G a o) (f : Fx o) (r : R (wd X w) G e p σ H) : H a = some o := by
  rcases k with k | ⟨k, n⟩
  · exact r.base.sub _ _ k
  · exact r.base.kept _ _ k n f.nt
theorem SlRs.noFx {W : Wd} {G H : Hp} {σ : L2.St} {e : Ev} {fps : List (List Addr)} (hh : SlRs W G H σ e fps) : ∀ a ∈ fps.flatten, ∀ o, H a = some o → ¬ Fx o := by
  have lf : ∀ {xs : List V}, ¬ Fx (.lst xs) := fun {xs} h => by rcases h with ⟨_, z⟩ | ⟨_, z⟩ <;> cases z
  induction hh with
  | nil => intro c hc; simp at hc
  | cons q _ ih =>
    intro c hc o ho
    rw [List.flatten_cons, List.mem_append] at hc
    rcases hc with hc | hc
    · cases q with
      | emp => simp at hc
      | val _ => simp at hc
      | lis ha _ =>
        obtain rfl := List.mem_singleton.mp hc
        rw [ha] at ho
        cases ho
        exact lf
      | lis2 ha hr =>
        rcases List.mem_cons.mp hc with rfl | hc
        · rw [ha] at ho
          cases ho
          exact lf
        · obtain ⟨vs, k⟩ := hr.isL c hc
          rw [k] at ho
          cases ho
          exact lf
      | ins _ ha _ _ | dk ha _ _ | dt ha _ _ =>
        obtain rfl := List.mem_singleton.mp hc
        rw [ha] at ho
        cases ho
        intro h
        rcases h with ⟨_, z⟩ | ⟨_, z⟩ <;> cases z
    · exact ih c hc o ho
theorem adopt {w : Wl} {G H : Hp} {e : Ev} {p : Pen} {σ : L2.St} {a : Addr} {o : HO} (r : R (wd X w) G e p σ H) (h : H a = some o) (f : Fx o) : ∃ G', Sub G G' ∧ R (wd X w) G' e p σ H ∧ Kn w G' a o := by
  have npa : a ≠ w.pa := fun z => by
    obtain ⟨_, ca, _, hp⟩ := r.base.pen
    have hp : H w.pa = _ := hp
    rw [z, hp] at h
    cases h
    rcases f with ⟨_, z⟩ | ⟨_, z⟩ <;> cases z
  cases hG : G a with
  | some u =>
    have := r.base.sub _ _ hG
    rw [h] at this
    cases this
    exact ⟨G, Sub.refl _, r, .inl hG⟩
  | none =>
    cases hB : w.B a with
    | some u =>
      have := r.base.kept a u hB npa fun ps z => r.base.nt a ps (by rw [show (wd X w).B a = _ from hB, z])
      rw [h] at this
      cases this
      exact ⟨G, Sub.refl _, r, .inr ⟨hB, npa⟩⟩
    | none =>
      obtain ⟨fps, h1, h2, h3⟩ := r.sls
      refine ⟨upd G a o, Sub.new hG, ⟨r.base.still h hG hB npa f.nt, fps, h1.mono (Sub.new hG) fun _ _ _ q => q, h2, fun b hb => ?_⟩, .inl upd_same⟩
      obtain ⟨k1, k2, k3⟩ := h3 b hb
      refine ⟨?_, k2, k3⟩
      rw [upd_ne (fun z => SlRs.noFx h1 b hb o (by rw [z]; exact h) f)]
      exact k1
structure Cl1 (X : Cx) (q : Str) (w : Wl) (G : Hp) (l : LS) (f : Addr) : Prop where
  ex : ∃ c' dV, Kn w G f (lamO X q l f dV c') ∧ Kn w G c' (CodeO c' q) ∧ (dV = .none ∨ ∃ (dt : Addr) (i : Int), dV = .ref dt ∧ Kn w G dt (.tup [.int i])) ∧ LBind q l.params l.body l.scope dV
theorem Cl1.mono {q : Str} {w : Wl} {G G' : Hp} {l : LS} {f : Addr} (k : Cl1 X q w G l f) (s : Sub G G') : Cl1 X q w G' l f := by
  obtain ⟨c', dV, a, b, d, e⟩ := k.ex
  exact ⟨c', dV, a.mono s, b.mono s, d.imp id (fun ⟨dt, i, z, k⟩ => ⟨dt, i, z, k.mono s⟩), e⟩
theorem mk_w {q : Str} {l : LS} {w : Wl} {G H : Hp} {e : Ev} {p : Pen} {σ : L2.St} {Q : VK} (r : R (wd X w) G e p σ H) (h : ∀ G' f H', Sub G G' → R (wd X w) G' e p σ H' → Cl1 X q w G' l f → Q (.ref f) H') : tMk X q l σ H Q := by
  refine ⟨r.base.tab, fun f c' dV H1 x1 t1 h1 h2 h3 h4 => ?_⟩
  have r1 := r.extN x1 t1
  obtain ⟨G1, s1, r2, k1⟩ := adopt r1 h1 (.inl ⟨_, rfl⟩)
  obtain ⟨G2, s2, r3, k2⟩ := adopt r2 h2 (.inl ⟨_, rfl⟩)
  rcases h3 with z | ⟨dt, i, z, hd⟩
  · exact h G2 f H1 (s1.trans s2) r3 ⟨c', dV, k1.mono s2, k2, .inl z, h4⟩
  · obtain ⟨G3, s3, r4, k3⟩ := adopt r3 hd (.inr ⟨_, rfl⟩)
    exact h G3 f H1 (s1.trans (s2.trans s3)) r4 ⟨c', dV, k1.mono (s2.trans s3), k2.mono s3, .inr ⟨dt, i, z, k3⟩, h4⟩
theorem mks_w {q : Str} {w : Wl} {e : Ev} {p : Pen} {σ : L2.St} : ∀ {ls : List LS} {G H : Hp} {Q : List V → Hp → Prop}, R (wd X w) G e p σ H → (∀ G' fs H', Sub G G' → R (wd X w) G' e p σ H' → Paired (Cl1 X q w G') ls fs → Q (fs.map V.ref) H') → tMks X q ls σ H Q
  | [], G, H, Q, r, h => h G [] H (Sub.refl _) r .nil
  | l :: ls, G, H, Q, r, h => show tMk X q l σ H (fun v H1 => tMks X q ls σ H1 fun vs H2 => Q (v :: vs) H2) from mk_w r fun G1 f H1 s1 r1 k1 => mks_w r1 fun G2 fs H2 s2 r2 k2 => h G2 (f :: fs) H2 (s1.trans s2) r2 (.cons (k1.mono s2) k2)
def turnLam (cs : List Cl) (okS : Str) (fr : EM) (g : SM) (fb : EM) : SM := sIf (tmB (eBin neD (eLam cs okS fb) fr)) g sNext
def goLam (i : Nat) (cs : List Cl) (okS : Str) (fr : EM) (g : SM) : List EM → Ev → Pen → SR
  | [], e, p => .nx e p
  | fb :: fbs, e, p => match turnLam cs okS fr g fb (e.set i none) p with
    | .nx e1 p1 => goLam i cs okS fr g fbs e1 p1
    | .rt d e1 p1 => .rt d e1 p1
    | .exc x e1 p1 => .exc x e1 p1
    | _ => .bad
theorem ds_forLam {cs : List Cl} {cvs : List CV} {okS : Str} {x a v : Str} {g : Addr} {k i : Nat} {pg : Arguments} {bg : List Stmt} {sg : Scope} {dV kV doc pm cdv ct oc : Value} {an od : Option Addr} {osl : Array (Option Value)} {Ng : List Str}
    {ls : List LS} {fbs : List EM} {rhs : Expr} {ret : List Stmt} {fr : EM} {gr : SM} {vp lp p1 p2 p3 p4 p7 pos : Pos} (hN : X.N.Nodup) (hp : PassesOwn (model X.prog X.w) X.A X.env X.xe) (hc : X.calm = true) (hcs : ClsOk X.K X.mg cs cvs)
    (hg : Gl X x) (hm : X.mg x = some (.ref g)) (hk : PySem.W.keepIn X.K (.ref g) = true)
    (lk : X.K.lookup g = some ⟨oc, od, .func (PySem.W.fnOf x x pg bg sg dV kV doc pm an cdv ct), osl⟩) (hcg : PySem.W.codeIn X.K cdv x = true) (hb : L2.Binds X.K (PySem.W.fnOf x x pg bg sg dV kV doc pm an cdv ct) [a] []) (Sg : FnScope Ng [a] sg) (hNg : Ng[0]? = some a) (hva : Vis sg a)
    (hG : GivesTo X Ng x sg g cdv bg a (X.env.qual ++ "<lambda>") (TTc X.K cvs okS)) (TB : TabB X.base X.mg c P) (hcode : X.env.code = .ref c) (hmT : (P, X.env.qual ++ "<lambda>") ∈ tabsT) (hu : ∀ p ∈ tabsT, p.1 = P → p.2 = X.env.qual ++ "<lambda>") (hr : Room (k + 2) X.A)
    (ok : ∀ l ∈ ls, LOk X (X.env.qual ++ "<lambda>") l)
    (hbody : Paired (fun (l : LS) (fb : EM) => ∀ (A : Around) (outer : List Env) (s : Shared) (H : Hp) (E : XK) (f c' : Addr), Room k (A.deeper (lamEnv X l.scope s.heap.objs.size f c')) → DE (lamCx X A outer s H E l.scope f c') (fun cls d _ H => E cls d H) l.body fb) ls fbs)
    (hrhs : DQ X WW rhs fr) (hret : DSs X WW ret gr) (hi : X.N[i]? = some v) (hloc : X.env.scope.names.lookup v = some .local) (hne : behindInMarks .NotEq rhs = false) (hlen : ls.length ≤ 1000)
    (hvd : (v == ("__debug__" : Str)) = false := by decide) (hvcd : (v == ("__classdict__" : Str)) = false := by decide)
    (hdb : (x == ("__debug__" : Str)) = false := by decide) (hd : (a == ("__debug__" : Str)) = false := by decide) (hcd : (a == ("__classdict__" : Str)) = false := by decide)
    (hs : ∀ y, foldedSetIterable (.List (ls.map LS.e) lp) X.env y = pure y := by intro _; rfl) :
    DS X WW (.For (.Name v vp) (.List (ls.map LS.e) lp) [.If (.Compare (.Call (.Name x p1) [.Name v p2] [] p3) [.NotEq] [rhs] p4) ret [] p7] [] pos) (fun e p => goLam i cs okS fr gr fbs e p) := by
  -- the call's reading, whichever lambda it is
  have hvv : Vis X.env.scope v := .inl hloc
  have bodies : ∀ {ls' : List LS} {fbs' : List EM}, Paired (fun (l : LS) (fb : EM) => ∀ (A : Around) (outer : List Env) (s : Shared) (H : Hp) (E : XK) (f c' : Addr), Room k (A.deeper (lamEnv X l.scope s.heap.objs.size f c')) → DE (lamCx X A outer s H E l.scope f c') (fun cls d _ H => E cls d H) l.body fb) ls' fbs' → ∀ (j : Nat) (l : LS), ls'[j]? = some l → ∃ fb, fbs'[j]? = some fb ∧ ∀ (A : Around) (outer : List Env) (s : Shared) (H : Hp) (E : XK) (f c' : Addr), Room k (A.deeper (lamEnv X l.scope s.heap.objs.size f c')) → DE (lamCx X A outer s H E l.scope f c') (fun cls d _ H => E cls d H) l.body fb := by
    intro ls' fbs' hp
    induction hp with
    | nil => intro j l h; simp at h
    | cons h1 _ ih =>
      intro j l h
      cases j with
      | zero => simp at h; subst h; exact ⟨_, rfl, h1⟩
      | succ j => exact ih j l (by simpa using h)
  have tell : ∀ (j : Nat) (l : LS) (fb : EM), ls[j]? = some l → fbs[j]? = some fb → PE X (.Call (.Name x p1) [.Name v p2] [] p3) (tTellV i (X.env.qual ++ "<lambda>") l.params l.body l.scope X (TTc X.K cvs okS) fun E => tE X (fun cls d _ H => E cls d H) fb) := by
    intro j l fb hl hf
    obtain ⟨fb', hf', hB⟩ := bodies hbody j l hl
    rw [hf] at hf'
    cases hf'
    exact pe_tellV hg hm hk lk hcg hb Sg hNg hva hG hr (ok l (List.mem_of_getElem? hl)).sc (fun A outer s H E f c' h => hB A outer s H E f c' h) hi hvv hvd hvcd hdb hd hcd
  let tl : TE := fun σ H Q => ∃ (j : Nat) (l : LS) (fb : EM), ls[j]? = some l ∧ fbs[j]? = some fb ∧ tTellV i (X.env.qual ++ "<lambda>") l.params l.body l.scope X (TTc X.K cvs okS) (fun E => tE X (fun cls d _ H => E cls d H) fb) σ H Q
  have ptl : PE X (.Call (.Name x p1) [.Name v p2] [] p3) tl := ⟨fun pins s σ H Q I ⟨j, l, fb, h1, h2, h3⟩ => (tell j l fb h1 h2).run pins s σ H Q I h3⟩
  have pbody := pss_one (ps_if (pos := p7) (pt_cmpR (pos := p4) (op_neD hr.units) ptl hrhs hne) hret (dss_nil (X := X) (WW := WW)))
  have pbody2 : PSs X [.If (.Compare (.Call (.Name x p1) [.Name v p2] [] p3) [.NotEq] [rhs] p4) ret [] p7] (fun D σ H => σ.length = X.N.length → tIfS (tTest (tOp (rNeD X.K) tl (tQ X WW fr))) (tS X WW gr) (tS X WW sNext) D σ H) := ⟨fun pins s σ H D I h => pbody.run pins s σ H D I (h I.len)⟩
  refine PSw (ps_for hp hc (pi_list (pe_lst (pa_mks TB hcode hmT hu ok))) (pg_name hN hi (.inl hloc) (.inr hloc)) pbody2 hs) fun D σ H ⟨w, G, e, p, r, q⟩ => ?_
  refine mks_w r fun G1 fs H1 s1 r1 k1 => ⟨by rw [List.length_map, ← Paired.length k1, sizeLine_eq]; omega, fun l0 hl0 => ?_⟩
  have r2 := r1.alloc hl0 (o := .lst (fs.map V.ref)) (fun _ z => by cases z)
  have s2 : Sub G1 (upd G1 l0 (.lst (fs.map V.ref))) := Sub.new (r1.base.free hl0).2.1
  refine ⟨l0, rfl, ⟨_, SqL.of upd_same⟩, ?_⟩
  have lenF : fs.length = ls.length := (Paired.length k1).symm
  have lenB : fbs.length = ls.length := (Paired.length hbody).symm
  refine for_list (D := D) (g := gName i) (tb := fun D σ H => σ.length = X.N.length → tIfS (tTest (tOp (rNeD X.K) tl (tQ X WW fr))) (tS X WW gr) (tS X WW sNext) D σ H) (xs := fs.map V.ref) (fun j σ' H' => ∃ G' e' p', Sub (upd G1 l0 (.lst (fs.map V.ref))) G' ∧ R (wd X w) G' e' p' σ' H' ∧ PostS (wd X w) WW D G' (goLam i cs okS fr gr (fbs.drop j) e' p')) ?_ ?_ ?_ ?_
  · exact ⟨_, e, p, Sub.refl _, r2, PostS.mono q (s1.trans s2)⟩
  · rintro j σ' H' _ ⟨G', e', p', s', r', _⟩
    exact SqL.of (r'.base.sub _ _ (s' _ _ upd_same))
  · rintro j x' σ' H' hj ⟨G', e', p', s', r', q'⟩
    rw [List.getElem?_map] at hj
    cases hf : fs[j]? with
    | none => rw [hf] at hj; cases hj
    | some f =>
      rw [hf] at hj
      cases hj
      have hjl : j < ls.length := by rw [← lenF]; exact (List.getElem?_eq_some_iff.mp hf).1
      obtain ⟨l, hl⟩ : ∃ l, ls[j]? = some l := ⟨_, List.getElem?_eq_getElem hjl⟩
      obtain ⟨fb, hfb⟩ : ∃ fb, fbs[j]? = some fb := ⟨_, List.getElem?_eq_getElem (by omega)⟩
      have kj : Cl1 X (X.env.qual ++ "<lambda>") w G' l f := by
        have : ∀ {ls' : List LS} {fs' : List Addr}, Paired (Cl1 X (X.env.qual ++ "<lambda>") w G1) ls' fs' → ∀ (j : Nat) (l : LS) (f : Addr), ls'[j]? = some l → fs'[j]? = some f → Cl1 X (X.env.qual ++ "<lambda>") w G1 l f := by
          intro ls' fs' hp
          induction hp with
          | nil => intro j l f h; simp at h
          | cons h1 _ ih =>
            intro j l f h h'
            cases j with
            | zero => simp at h h'; subst h h'; exact h1
            | succ j => exact ih j l f (by simpa using h) (by simpa using h')
        exact (this k1 j l f hl hf).mono (s2.trans s')
      have hdr : fbs.drop j = fb :: fbs.drop (j + 1) := by
        obtain ⟨hlt, he⟩ := List.getElem?_eq_some_iff.mp hfb
        rw [← he]
        exact List.drop_eq_getElem_cons hlt
      rw [hdr] at q'
      unfold goLam at q'
      have r3 := r'.forget (some (.ref f)) i
      intro hLen
      obtain ⟨c', dW, kf, kc, kd, kb⟩ := kj.ex
      have hset : (σ'.set i (some (.ref f)))[i]? = some (some (V.ref f)) := by
        have hlt : i < σ'.length := by
          rw [List.length_set] at hLen
          rw [hLen]
          exact (List.getElem?_eq_some_iff.mp hi).1
        rw [List.getElem?_set_self hlt]
      let Pv : L2.St → Hp → Prop := fun σ' H' => ∃ G' e' p', Sub (upd G1 l0 (.lst (fs.map V.ref))) G' ∧ R (wd X w) G' e' p' σ' H' ∧ PostS (wd X w) WW D G' (goLam i cs okS fr gr (fbs.drop (j + 1)) e' p')
      have qt : tS X WW (turnLam cs okS fr gr fb) { D with nx := Pv, ct := Pv, bk := D.nx } (σ'.set i (some (.ref f))) H' := by
        refine ⟨w, G', e'.set i none, p', r3, ?_⟩
        cases ht : turnLam cs okS fr gr fb (e'.set i none) p' with
        | nx e1 p1 => simp only [ht] at q'; exact fun G3 σ4 H4 s3 r4 => ⟨G3, e1, p1, s'.trans s3, r4, PostS.mono q' s3⟩
        | rt d e1 p1 => simp only [ht] at q'; exact q'
        | exc y e1 p1 => simp only [ht] at q'; exact q'
        | bk e1 p1 => simp only [ht] at q'; exact q'.elim
        | ct e1 p1 => simp only [ht] at q'; exact q'.elim
        | bad => simp only [ht] at q'; exact q'.elim
      have q3 := tb_w (bin_w l_ne) _ _ (fun b H1 => if b = true then tS X WW gr { D with nx := Pv, ct := Pv, bk := D.nx } (σ'.set i (some (.ref f))) H1 else tS X WW sNext { D with nx := Pv, ct := Pv, bk := D.nx } (σ'.set i (some (.ref f))) H1) ((ts_w qt).imp fun b H1 q1 => by
        cases b with
        | true => exact q1
        | false => exact q1)
      have q4 := (lam_w hcs _ _ _ q3).2 H' (ExtN.refl H') r3.base.tab
      refine ⟨j, l, fb, hl, hfb, f, c', dW, hset, kc.at_ (.inl ⟨_, rfl⟩) r3, kf.at_ (.inl ⟨_, rfl⟩) r3, ?dv, kb, ⟨⟨kf.at_ (.inl ⟨_, rfl⟩) r3, ?dv⟩, q4⟩⟩
      case dv =>
        rcases kd with z | ⟨dt, n, z, kn⟩
        · exact .inl z
        · exact .inr ⟨dt, n, z, kn.at_ (.inr ⟨_, rfl⟩) r3⟩
  · rintro σ' H' ⟨G', e', p', s', r', q'⟩
    rw [List.length_map, lenF, ← lenB, List.drop_length] at q'
    exact q' G' σ' H' (Sub.refl _) r'
end
end PdV

namespace L2
open PySem PySem.Spec PyProof.Rows
theorem tuple_mul1 (l : Addr) (items : Array Value) (n : Nat) (dd : Option Addr) (sl : Array (Option Value)) (u : Tok) :
    Meets (Builtin.«tuple.__mul__» ⟨[.ref l, .int 1 u], []⟩) (fun _ R s => s.heap.get? l = some { cls := .type "tuple", dict := dd, data := .seq items n, slots := sl } ∧ R (.ok (.ret (Value.ref l))) s) :=
  .of_wp fun prog w A R s h => by
    obtain ⟨hp, g, d, tk, os⟩ := s
    obtain ⟨hl, h⟩ := h
    have f1 := AutoSeq1.idx_int
    have c1 : (items.isEmpty || (1 : Int) == 1) = true := by simp
    wp_walk using wpAny_loadPart' hl
    exact ⟨_, rfl, h⟩
theorem tuple_mul0 (l : Addr) (items : Array Value) (n : Nat) (dd : Option Addr) (sl : Array (Option Value)) (x : Int) (u : Tok) (c0 : (decide (x < -(2 ^ 63)) || decide (x ≥ 2 ^ 63)) = false) (c1 : (items.isEmpty || x == 1) = false) (c2 : (decide (x ≤ 0) || items.isEmpty) = true) :
    Meets (Builtin.«tuple.__mul__» ⟨[.ref l, .int x u], []⟩) (fun _ R s => s.heap.get? l = some { cls := .type "tuple", dict := dd, data := .seq items n, slots := sl } ∧
      R (.ok (.ret (Value.ref s.heap.objs.size))) { s with heap := s.heap.push { cls := Value.type "tuple", data := Data.seq #[] }, toks := s.toks }) :=
  .of_wp fun prog w A R s h => by
    obtain ⟨hp, g, d, tk, os⟩ := s
    obtain ⟨hl, h⟩ := h
    have f1 := AutoSeq1.idx_int
    wp_walk using wpAny_loadPart' hl
    repeat (first
      | (refine wpAny_ite_false (decide_eq_false (by rw [c0]; exact Bool.false_ne_true)) ?_; wp_walk using wpAny_loadPart' hl)
      | (refine wpAny_ite_false (decide_eq_false (by rw [c1]; exact Bool.false_ne_true)) ?_; wp_walk using wpAny_loadPart' hl)
      | (refine wpAny_ite_true (decide_eq_true (by rw [c2])) ?_; wp_walk using wpAny_loadPart' hl))
    exact ⟨_, rfl, h⟩
def rRepT2 (K : PySem.W.Frag) : R2 := fun x y H Q => ∃ l k xs, x = .ref l ∧ y = .int k ∧ SqT K H l xs ∧ xs ≠ [] ∧ -1000 ≤ k ∧ k ≤ 1000 ∧ xs.length ≤ 1000 ∧ (k = 1 → Q (.ref l) H) ∧ (k ≠ 1 → ∀ p, H p = none → Q (.ref p) (upd H p (.tup (List.replicate k.toNat xs).flatten)))
section
variable {X : Cx}
theorem op_repT2 : OpR X (binaryOp .Mult) (rRepT2 X.K) := by
  intro pins s σ H x y v u Q I rx ry h
  obtain ⟨l, k, xs, rfl, rfl, hT, hne, h1, h2, hz, q1, q2⟩ := h
  by_cases hk2 : 2 ≤ k
  · exact op_repT pins s σ H _ _ v u Q I rx ry ⟨l, k, xs, rfl, rfl, hT, hne, hk2, h2, hz, q2 (by omega)⟩
  cases rx
  obtain ⟨t, rfl⟩ := ry
  obtain ⟨its, r, ⟨⟨cls, dd, data, sl⟩, ho, hc, n, hd⟩, hs⟩ := I.tuple hT
  simp only at hc hd
  subst hc hd
  have hle : its.length = xs.length := r.length.symm
  have hn : its ≠ [] := fun e => hne (by
    rw [e] at hle
    exact List.eq_nil_of_length_eq_zero hle.symm)
  have hi : its.toArray.isEmpty = false := by
    cases its with
    | nil => exact absurd rfl hn
    | cons a b => rfl
  have c0 : (decide (k < -(2 ^ 63)) || decide (k ≥ 2 ^ 63)) = false := by
    rw [decide_eq_false (by omega), decide_eq_false (by omega)] <;> rfl
  by_cases hk1 : k = 1
  · subst hk1
    exact wpAny_binaryOp_repeat_ref (T := "tuple") (U := "int") (by decide) ⟨_, ho, rfl⟩ (fun s' => typeIs_int s' 1 t) noFill_tuple_mul F.fills_int_mul F.slot_int_rmul repeat_tuple F.slot_int_index.lookup
      (call_meets F.slot_int_rmul (typeIs_int s 1 t) F.entry_int_rmul (F.args_int_rmul_2 _ _) (int_rmul_tuple 1 t l its.toArray n dd sl)
        ⟨ho, rfl, ⟨_, ho, rfl⟩, call_meets F.slot_tuple_mul ⟨_, ho, rfl⟩ F.entry_tuple_mul (F.args_tuple_mul_2 _ _) (tuple_mul1 l its.toArray n dd sl t) ⟨ho, ⟨.ref l, H, I, rfl, q1 rfl⟩⟩⟩)
  have c1 : (its.toArray.isEmpty || k == 1) = false := by
    rw [hi, Bool.false_or]
    exact beq_eq_false_iff_ne.mpr hk1
  have c2 : (decide (k ≤ 0) || its.toArray.isEmpty) = true := by
    rw [decide_eq_true (by omega), Bool.true_or]
  have hz0 : k.toNat = 0 := by omega
  have q3 := q2 hk1
  rw [hz0] at q3
  refine wpAny_binaryOp_repeat_ref (T := "tuple") (U := "int") (by decide) ⟨_, ho, rfl⟩ (fun s' => typeIs_int s' k t) noFill_tuple_mul F.fills_int_mul F.slot_int_rmul repeat_tuple F.slot_int_index.lookup
    (call_meets F.slot_int_rmul (typeIs_int s k t) F.entry_int_rmul (F.args_int_rmul_2 _ _) (int_rmul_tuple k t l its.toArray n dd sl)
      ⟨ho, rfl, ⟨_, ho, rfl⟩, call_meets F.slot_tuple_mul ⟨_, ho, rfl⟩ F.entry_tuple_mul (F.args_tuple_mul_2 _ _) (tuple_mul0 l its.toArray n dd sl k t c0 c1 c2) ⟨ho, ?_⟩⟩)
  refine ⟨.ref s.heap.objs.size, _, I.laid (t' := s.toks) (o := .tup []) (fun b ob q => Heap.get?_push_of_some _ q) (Nat.le_refl _) ?_, rfl, q3 _ (I.hok.fresh (Nat.le_refl _))⟩
  exact ⟨Nat.zero_le _, [], .nil, IsTup.new _ _⟩
end
end L2
namespace Pd
open PySem PySem.Spec L2 PyProof.Rows RZ
section
variable {X : Cx} {WW : WX}
def mulD3 : D → D → Option D
  | .tup xs, .int k => if xs ≠ [] ∧ -1000 ≤ k ∧ k ≤ 1000 ∧ xs.length ≤ 1000 then some (.tup (List.replicate k.toNat xs).flatten) else none
  | x, y => mulD x y
theorem op_mul4 : OpR X (binaryOp .Mult) (fun x y H Q => (rI CMulW (fun i j => .int (i * j)) x y H Q ∨ rRep x y H Q) ∨ rRepT2 X.K x y H Q) := PRw op_mul2 op_repT2
theorem l_mul3 : Lift2 X (fun x y H Q => (rI CMulW (fun i j => .int (i * j)) x y H Q ∨ rRep x y H Q) ∨ rRepT2 X.K x y H Q) mulD3 := by
  intro w G H x y dx dy dz Q s hpa hx hy hz q
  unfold mulD3 at hz
  split at hz
  · rename_i xs k
    cases hy.int
    split at hz
    · rename_i h
      cases hz
      cases hx with
      | tup ha ra =>
        rename_i a vs
        have l1 := ra.length
        refine .inr ⟨a, k, vs, rfl, rfl, SqT.of (s _ _ ha), fun z => h.1 (by rw [z] at l1; exact List.length_eq_zero_iff.mp l1.symm), h.2.1, h.2.2.1, by rw [l1]; exact h.2.2.2, fun e => q _ _ _ al0 ?_, fun _ p hp => q _ _ _ (alN hp) (.tup upd_same (reps_rep (W := wd X w) (Reps.mono (Sub.new (s.fresh hp)) ra) _))⟩
        subst e
        have e1 : (List.replicate (1 : Int).toNat xs).flatten = xs := by
          show [xs].flatten = xs
          simp
        rw [e1]
        exact .tup ha ra
    · cases hz
  · exact .inl (l_mul w G H x y dx dy dz Q s hpa hx hy hz q)
end
end Pd

namespace PySem
open Sem (wp)
abbrev IsZ (h : Heap) (z TI TO : Addr) (f0 : Value) (f1 : Bool) : Prop :=
  h.get? z = some { cls := .type "zip", dict := none, data := .fields #[f0, .bool f1, .bool false, .ref TI, .ref TO], slots := #[] }
def ZF (f0 : Value) : Prop := f0 = .none ∨ ∃ T : Addr, f0 = rawInt T
section
variable {prog : Program} {w : World} {A : Around} {E : Value → Shared → Prop} {s : Shared} {z TI TO i1 i2 : Addr} {fp1 fp2 : List Addr} {n1 n2 i : Nat} {P1 P2 : Nat → Value → Prop} {St1 St2 : Nat → Heap → Prop} {a1 a2 f0 : Value} {f1 : Bool}
theorem loadIf_any {a : Addr} {Q : Option Obj → Shared → Prop} (h : Q (s.heap.get? a) s) : wpAny (model prog w) A (loadIfAlive a) Q E s := fun _ _ _ => h
theorem zipFree {Q : Bool → Shared → Prop} (hz : IsZ s.heap z TI TO f0 f1) (hf : ZF f0) (ht : Q true s) (hn : ∀ h', IsZ h' z TI TO f0 true → Heap.SameBut z s.heap h' → Q false { s with heap := h' }) :
    wpAny (model prog w) A (Builtin.SmallTypes.ownedTupleIsFree (.ref z)) Q E s := by
  unfold Builtin.SmallTypes.ownedTupleIsFree
  rcases hf with rfl | ⟨T, rfl⟩
  · exact wpAny_bind (wpAny_field hz rfl (x := .none) rfl (wpAny_pure ht))
  · refine wpAny_bind (wpAny_field hz rfl (x := rawInt T) rfl ?_)
    show wpAny _ _ (loadIfAlive ((T : Int).toNat) >>= _) _ _ _
    rw [Int.toNat_natCast]
    refine wpAny_bind (loadIf_any ?_)
    cases s.heap.get? T with
    | none =>
      simp only [Option.isNone_none, if_true]
      exact wpAny_pure ht
    | some o =>
      simp only [Option.isNone_some, Bool.false_eq_true, if_false]
      refine wpAny_bind (wpAny_field hz rfl (x := .bool f1) rfl ?_)
      cases f1 with
      | true =>
        rw [if_neg (show ¬ ((Value.bool true != Value.bool true) = true) from Bool.false_ne_true)]
        exact wpAny_pure (hn s.heap hz (Heap.SameBut.refl _ _))
      | false =>
        rw [if_pos (show (Value.bool false != Value.bool true) = true from rfl)]
        exact wpAny_bind (wpAny_setField_rec hz (by simp) fun h₁ hz₁ hs₁ => wpAny_pure (hn h₁ hz₁ hs₁))
theorem zipX_next_item {Q : Value → Shared → Prop} (S : ZipSep2 z TI TO i1 i2 fp1 fp2) (D1 : Draws prog w A i1 fp1 n1 P1 St1) (D2 : Draws prog w A i2 fp2 n2 P2 St2)
    (hz : IsZ s.heap z TI TO f0 f1) (hf : ZF f0) (hTI : IsTupOf2 s.heap TI (.ref i1) (.ref i2)) (hTO : IsTupOf2 s.heap TO a1 a2) (st1 : St1 i s.heap) (st2 : St2 i s.heap) (hlt1 : i < n1) (hlt2 : i < n2)
    (hQ : ∀ x1 x2 f0' f1' b1 b2 h' tk, P1 i x1 → P2 i x2 → ZF f0' → IsZ h' z TI TO f0' f1' → IsTupOf2 h' TO b1 b2 → St1 (i + 1) h' → St2 (i + 1) h' → IsTupOf2 h' s.heap.objs.size x1 x2 → h'.objs.size = s.heap.objs.size + 1 →
      (∀ c o, c ≠ z → c ≠ TO → c ≠ i1 → c ≠ i2 → s.heap.get? c = some o → h'.get? c = some o) → Q (.ref s.heap.objs.size) { s with heap := h', toks := tk }) :
    wpAny (model prog w) A (Builtin.«zip.__next__» ⟨[.ref z], []⟩) (fun fin s' => ∃ v, fin = .done (.ret v) ∧ Q v s') E s := by
  obtain ⟨hp, g, d, tk0, os⟩ := s
  show wpAny _ _ (field (.ref z) 2 >>= _) _ _ _
  refine wpAny_bind (wpAny_field hz rfl (x := .bool false) rfl ?_)
  show wpAny _ _ (field (.ref z) 3 >>= _) _ _ _
  refine wpAny_bind (wpAny_field hz rfl (x := .ref TI) rfl ?_)
  refine wpAny_bind (wpAny_seqItems hTI rfl ?_)
  show wpAny _ _ (Builtin.SmallTypes.ownedTupleIsFree (.ref z) >>= _) _ _ _
  refine wpAny_bind (zipFree hz hf ?_ fun h₁ hz₁ hs₁ => ?_)
  · simp only [if_true]
    refine wpAny_bind (wpAny_rule ?_)
    refine wpAny_bind (wpAny_field hz rfl (x := .ref TO) rfl ?_)
    refine wpAny_bind (wpAny_setField_rec hz (by simp) fun g0 hz0 hs0 => ?_)
    replace hz0 : IsZ g0 z TI TO .ellipsis f1 := hz0
    replace hs0 : Heap.SameBut z hp g0 := hs0
    refine wpAny_bind ?_
    simp only [List.zipIdx_cons, List.zipIdx_nil, List.forIn_cons, List.forIn_nil]
    refine wpAny_bind (wpAny_bind (wpAny_onRaise ?_))
    show wpAny _ _ (Builtin.SmallTypes.nextOf (.ref i1) >>= _) _ _ ⟨g0, g, d, tk0, os⟩
    refine wpAny_bind (D1.item i _ _ _ hlt1 (D1.over st1 hs0 S.zf1) fun x1 p1 tk1 hx1 sn1 hp1 => wpAny_pure ?_)
    replace hp1 : Heap.SameBut i1 g0 p1 := hp1
    have hU1 : IsTupOf2 p1 TO a1 a2 := hp1.extBut _ _ S.Ti1 (hs0.extBut _ _ S.TOz hTO)
    refine wpAny_bind (wpAny_seqItems (s := ⟨p1, g, d, tk1, os⟩) hU1 rfl ?_)
    refine wpAny_bind (updateSeq_IsTupOf2 (s := ⟨p1, g, d, tk1, os⟩) hU1 fun g1 hT1 hs1 => ?_)
    replace hT1 : IsTupOf2 g1 TO x1 a2 := hT1
    replace hs1 : Heap.SameBut TO p1 g1 := hs1
    refine wpAny_bind (wpAny_letGo (wpAny_pure ?_))
    refine wpAny_bind (wpAny_bind (wpAny_onRaise ?_))
    show wpAny _ _ (Builtin.SmallTypes.nextOf (.ref i2) >>= _) _ _ ⟨g1, g, d, tk1, os⟩
    refine wpAny_bind (D2.item i _ _ _ hlt2 (D2.over (D2.over (D2.over st2 hs0 S.zf2) hp1 S.sep1_2) hs1 S.Tf2) fun x2 p2 tk2 hx2 sn2 hp2 => wpAny_pure ?_)
    replace hp2 : Heap.SameBut i2 g1 p2 := hp2
    have hU2 : IsTupOf2 p2 TO x1 a2 := hp2.extBut _ _ S.Ti2 hT1
    refine wpAny_bind (wpAny_seqItems (s := ⟨p2, g, d, tk2, os⟩) hU2 rfl ?_)
    refine wpAny_bind (updateSeq_IsTupOf2 (s := ⟨p2, g, d, tk2, os⟩) hU2 fun g2 hT2 hs2 => ?_)
    replace hT2 : IsTupOf2 g2 TO x1 x2 := hT2
    replace hs2 : Heap.SameBut TO p2 g2 := hs2
    refine wpAny_bind (wpAny_letGo (wpAny_pure (wpAny_pure ?_)))
    refine wpAny_bind (wpAny_seqItems (s := ⟨g2, g, d, tk2, os⟩) hT2 rfl ?_)
    refine wpAny_bind (wpAny_newTuple ?_)
    have hsz : g2.objs.size = hp.objs.size := by rw [hs2.1, hp2.1, hs1.1, hp1.1, hs0.1]
    have hzz : IsZ g2 z TI TO .ellipsis f1 := (hs2.extBut _ _ S.TOz.symm (hp2.extBut _ _ S.zi2 (hs1.extBut _ _ S.TOz.symm (hp1.extBut _ _ S.zi1 hz0))))
    have hkk : ∀ c o, c ≠ z → c ≠ TO → c ≠ i1 → c ≠ i2 → hp.get? c = some o → g2.get? c = some o := fun c o cz cT c1 c2 e =>
      (hs2.extBut _ _ cT (hp2.extBut _ _ c2 (hs1.extBut _ _ cT (hp1.extBut _ _ c1 (hs0.extBut _ _ cz e)))))
    have hj1 : St1 (i + 1) g2 := (D1.over (D1.over (D1.over sn1 hs1 S.Tf1) hp2 S.sep2_1) hs2 S.Tf1)
    have hj2 : St2 (i + 1) g2 := (D2.over sn2 hs2 S.Tf2)
    have hzlt : z < g2.objs.size := Heap.lt_size hzz
    show wpAny _ _ (Builtin.SmallTypes.ownedTupleHandOut (.ref z) (.ref g2.objs.size) >>= _) _ _ ⟨g2.push { cls := .type "tuple", data := .seq #[x1, x2] }, g, d, tk2, os⟩
    refine wpAny_bind ?_
    unfold Builtin.SmallTypes.ownedTupleHandOut
    have hz₆ : IsZ (g2.push { cls := .type "tuple", data := .seq #[x1, x2] }) z TI TO .ellipsis f1 := Heap.get?_push_of_some _ hzz
    refine wpAny_bind (wpAny_setField_rec hz₆ (by simp) fun h₇ hz₇ hs₇ => ?_)
    replace hz₇ : IsZ h₇ z TI TO (rawInt g2.objs.size) f1 := hz₇
    refine wpAny_setField_rec hz₇ (by simp) fun h₈ hz₈ hs₈ => ?_
    replace hz₈ : IsZ h₈ z TI TO (rawInt g2.objs.size) false := hz₈
    replace hs₇ : Heap.SameBut z (g2.push { cls := .type "tuple", data := .seq #[x1, x2] }) h₇ := hs₇
    replace hs₈ : Heap.SameBut z h₇ h₈ := hs₈
    have up : ∀ c o, c ≠ z → g2.get? c = some o → h₈.get? c = some o := fun c o c1 e => hs₈.extBut _ _ c1 (hs₇.extBut _ _ c1 (Heap.get?_push_of_some _ e))
    have hT₈ : IsTupOf2 h₈ g2.objs.size x1 x2 := hs₈.extBut _ _ (Nat.ne_of_gt hzlt) (hs₇.extBut _ _ (Nat.ne_of_gt hzlt) (Heap.get?_push_size _ rfl))
    have hz8 : h₈.objs.size = g2.objs.size + 1 := by rw [hs₈.1, hs₇.1, Heap.size_push]
    rw [hsz] at hz₈ hT₈ hz8
    refine wpAny_pure ⟨_, rfl, ?_⟩
    show Q (.ref g2.objs.size) ⟨h₈, g, d, tk2, os⟩
    rw [hsz]
    exact hQ x1 x2 _ _ x1 x2 h₈ tk2 hx1 hx2 (.inr ⟨_, rfl⟩) hz₈ (up _ _ S.TOz hT2) (D1.frame _ _ _ hj1 fun b hb o e => up b o (fun q => S.zf1 (q ▸ hb)) e) (D2.frame _ _ _ hj2 fun b hb o e => up b o (fun q => S.zf2 (q ▸ hb)) e) hT₈ hz8 fun c o cz cT c1 c2 e => up c o cz (hkk c o cz cT c1 c2 e)
  · replace hs₁ : Heap.SameBut z hp h₁ := hs₁
    simp only [Bool.false_eq_true, if_false]
    refine wpAny_bind ?_
    rw [← Array.forIn_toList]
    simp only [List.forIn_cons, List.forIn_nil]
    refine wpAny_bind (wpAny_bind (wpAny_holding ?_))
    show wpAny _ _ (Builtin.SmallTypes.nextOf (.ref i1) >>= _) _ _ ⟨h₁, g, d, tk0, os⟩
    refine wpAny_bind (D1.item i _ _ _ hlt1 (D1.over st1 hs₁ S.zf1) fun x1 p1 tk1 hx1 sn1 hp1 => wpAny_pure ?_)
    replace hp1 : Heap.SameBut i1 h₁ p1 := hp1
    refine wpAny_pure ?_
    refine wpAny_bind (wpAny_bind (wpAny_holding ?_))
    show wpAny _ _ (Builtin.SmallTypes.nextOf (.ref i2) >>= _) _ _ ⟨p1, g, d, tk1, os⟩
    refine wpAny_bind (D2.item i _ _ _ hlt2 (D2.over (D2.over st2 hs₁ S.zf2) hp1 S.sep1_2) fun x2 p2 tk2 hx2 sn2 hp2 => wpAny_pure ?_)
    replace hp2 : Heap.SameBut i2 p1 p2 := hp2
    refine wpAny_pure (wpAny_pure ?_)
    show wpAny _ _ (newTuple [x1, x2] >>= _) _ _ ⟨p2, g, d, tk2, os⟩
    refine wpAny_bind (wpAny_newTuple ?_)
    have hsz : p2.objs.size = hp.objs.size := by rw [hp2.1, hp1.1, hs₁.1]
    have hz₃ : IsZ p2 z TI TO f0 true := hp2.extBut _ _ S.zi2 (hp1.extBut _ _ S.zi1 hz₁)
    have hU : IsTupOf2 p2 TO a1 a2 := hp2.extBut _ _ S.Ti2 (hp1.extBut _ _ S.Ti1 (hs₁.extBut _ _ S.TOz hTO))
    have hk : ∀ c o, c ≠ z → c ≠ i1 → c ≠ i2 → hp.get? c = some o → p2.get? c = some o := fun c o c1 c2 c3 e => hp2.extBut _ _ c3 (hp1.extBut _ _ c2 (hs₁.extBut _ _ c1 e))
    have hj1 : St1 (i + 1) p2 := D1.over sn1 hp2 S.sep2_1
    have up : ∀ c o, p2.get? c = some o → (p2.push { cls := .type "tuple", data := .seq #[x1, x2] }).get? c = some o := fun c o e => Heap.get?_push_of_some _ e
    have hp3 : IsTupOf2 (p2.push { cls := .type "tuple", data := .seq #[x1, x2] }) p2.objs.size x1 x2 := Heap.get?_push_size _ rfl
    have hz4 : (p2.push { cls := .type "tuple", data := .seq #[x1, x2] }).objs.size = p2.objs.size + 1 := Heap.size_push ..
    refine wpAny_pure ⟨_, rfl, ?_⟩
    show Q (.ref p2.objs.size) ⟨p2.push { cls := .type "tuple", data := .seq #[x1, x2] }, g, d, tk2, os⟩
    rw [hsz] at hp3 hz4 ⊢
    exact hQ x1 x2 f0 true a1 a2 _ tk2 hx1 hx2 hf (up _ _ hz₃) (up _ _ hU) (D1.frame _ _ _ hj1 fun b hb o e => up b o e) (D2.frame _ _ _ sn2 fun b hb o e => up b o e) hp3 hz4 fun c o c1 _ c3 c4 e => up c o (hk c o c1 c3 c4 e)
theorem zipX_next_end {Q : Fin → Shared → Prop} (S : ZipSep2 z TI TO i1 i2 fp1 fp2) (D1 : Draws prog w A i1 fp1 n1 P1 St1) (D2 : Draws prog w A i2 fp2 n2 P2 St2)
    (hz : IsZ s.heap z TI TO f0 f1) (hf : ZF f0) (hTI : IsTupOf2 s.heap TI (.ref i1) (.ref i2)) (hTO : IsTupOf2 s.heap TO a1 a2) (st1 : St1 i s.heap) (st2 : St2 i s.heap) (hend : (∀ (s' : Shared) (Q' : Value → Shared → Prop) (E' : Value → Shared → Prop), St1 i s'.heap → (∀ h' e, Heap.ExtBut i1 s'.heap h' → (∃ o, h'.get? e = some o ∧ o.cls = .type "StopIteration") → E' (.ref e) { s' with heap := h' }) → wpAny (model prog w) A (Builtin.SmallTypes.nextOf (.ref i1)) Q' E' s') ∨ (i < n1 ∧ (∀ (s' : Shared) (Q' : Value → Shared → Prop) (E' : Value → Shared → Prop), St2 i s'.heap → (∀ h' e, Heap.ExtBut i2 s'.heap h' → (∃ o, h'.get? e = some o ∧ o.cls = .type "StopIteration") → E' (.ref e) { s' with heap := h' }) → wpAny (model prog w) A (Builtin.SmallTypes.nextOf (.ref i2)) Q' E' s')))
    (hE : ∀ h' tk e, (∀ c o, c ≠ z → c ≠ TO → c ≠ i1 → c ≠ i2 → s.heap.get? c = some o → h'.get? c = some o) → (∃ o, h'.get? e = some o ∧ o.cls = .type "StopIteration") → E (.ref e) { s with heap := h', toks := tk }) :
    wpAny (model prog w) A (Builtin.«zip.__next__» ⟨[.ref z], []⟩) Q E s := by
  obtain ⟨hp, g, d, tk0, os⟩ := s
  show wpAny _ _ (field (.ref z) 2 >>= _) _ _ _
  refine wpAny_bind (wpAny_field hz rfl (x := .bool false) rfl ?_)
  show wpAny _ _ (field (.ref z) 3 >>= _) _ _ _
  refine wpAny_bind (wpAny_field hz rfl (x := .ref TI) rfl ?_)
  refine wpAny_bind (wpAny_seqItems hTI rfl ?_)
  show wpAny _ _ (Builtin.SmallTypes.ownedTupleIsFree (.ref z) >>= _) _ _ _
  refine wpAny_bind (zipFree hz hf ?_ fun h₁ hz₁ hs₁ => ?_)
  · simp only [if_true]
    refine wpAny_bind (wpAny_rule ?_)
    refine wpAny_bind (wpAny_field hz rfl (x := .ref TO) rfl ?_)
    refine wpAny_bind (wpAny_setField_rec hz (by simp) fun g0 hz0 hs0 => ?_)
    replace hz0 : IsZ g0 z TI TO .ellipsis f1 := hz0
    replace hs0 : Heap.SameBut z hp g0 := hs0
    refine wpAny_bind ?_
    simp only [List.zipIdx_cons, List.zipIdx_nil, List.forIn_cons, List.forIn_nil]
    refine wpAny_bind (wpAny_bind (wpAny_onRaise ?_))
    show wpAny _ _ (Builtin.SmallTypes.nextOf (.ref i1) >>= _) _ _ ⟨g0, g, d, tk0, os⟩
    rcases hend with hdone | ⟨hlt1, hdone⟩
    rotate_left 1
    · refine wpAny_bind (D1.item i _ _ _ hlt1 (D1.over st1 hs0 S.zf1) fun x1 p1 tk1 hx1 sn1 hp1 => wpAny_pure ?_)
      replace hp1 : Heap.SameBut i1 g0 p1 := hp1
      have hU1 : IsTupOf2 p1 TO a1 a2 := hp1.extBut _ _ S.Ti1 (hs0.extBut _ _ S.TOz hTO)
      refine wpAny_bind (wpAny_seqItems (s := ⟨p1, g, d, tk1, os⟩) hU1 rfl ?_)
      refine wpAny_bind (updateSeq_IsTupOf2 (s := ⟨p1, g, d, tk1, os⟩) hU1 fun g1 hT1 hs1 => ?_)
      replace hT1 : IsTupOf2 g1 TO x1 a2 := hT1
      replace hs1 : Heap.SameBut TO p1 g1 := hs1
      refine wpAny_bind (wpAny_letGo (wpAny_pure ?_))
      refine wpAny_bind (wpAny_bind (wpAny_onRaise ?_))
      show wpAny _ _ (Builtin.SmallTypes.nextOf (.ref i2) >>= _) _ _ ⟨g1, g, d, tk1, os⟩
      refine wpAny_bind (hdone ⟨g1, g, d, tk1, os⟩ _ _ (D2.over (D2.over (D2.over st2 hs0 S.zf2) hp1 S.sep1_2) hs1 S.Tf2) fun q e hq he => ?_)
      replace hq : Heap.ExtBut i2 g1 q := hq
      obtain ⟨oe, hoe, hce⟩ := he
      replace hoe : q.get? e = some oe := hoe
      have hzq : IsZ q z TI TO .ellipsis f1 := hq _ _ S.zi2 (hs1.extBut _ _ S.TOz.symm (hp1.extBut _ _ S.zi1 hz0))
      have hez : e ≠ z := fun x => by subst x; rw [hzq] at hoe; cases hoe; simp at hce
      refine wpAny_setField_rec (s := ⟨q, g, d, tk1, os⟩) hzq (by simp) fun q' _ hq' => ?_
      replace hq' : Heap.SameBut z q q' := hq'
      exact hE q' tk1 e (fun c o cz cT c1 c2 x => hq'.extBut _ _ cz (hq _ _ c2 (hs1.extBut _ _ cT (hp1.extBut _ _ c1 (hs0.extBut _ _ cz x))))) ⟨oe, hq'.extBut _ _ hez hoe, hce⟩
    · refine wpAny_bind (hdone ⟨g0, g, d, tk0, os⟩ _ _ (D1.over st1 hs0 S.zf1) fun q e hq he => ?_)
      replace hq : Heap.ExtBut i1 g0 q := hq
      obtain ⟨oe, hoe, hce⟩ := he
      replace hoe : q.get? e = some oe := hoe
      have hzq : IsZ q z TI TO .ellipsis f1 := hq _ _ S.zi1 hz0
      have hez : e ≠ z := fun x => by subst x; rw [hzq] at hoe; cases hoe; simp at hce
      refine wpAny_setField_rec (s := ⟨q, g, d, tk0, os⟩) hzq (by simp) fun q' _ hq' => ?_
      replace hq' : Heap.SameBut z q q' := hq'
      exact hE q' tk0 e (fun c o cz cT c1 c2 x => hq'.extBut _ _ cz (hq _ _ c1 (hs0.extBut _ _ cz x))) ⟨oe, hq'.extBut _ _ hez hoe, hce⟩
  · replace hs₁ : Heap.SameBut z hp h₁ := hs₁
    simp only [Bool.false_eq_true, if_false]
    refine wpAny_bind ?_
    rw [← Array.forIn_toList]
    simp only [List.forIn_cons, List.forIn_nil]
    refine wpAny_bind (wpAny_bind (wpAny_holding ?_))
    show wpAny _ _ (Builtin.SmallTypes.nextOf (.ref i1) >>= _) _ _ ⟨h₁, g, d, tk0, os⟩
    rcases hend with hdone | ⟨hlt1, hdone⟩
    rotate_left 1
    · refine wpAny_bind (D1.item i _ _ _ hlt1 (D1.over st1 hs₁ S.zf1) fun x1 p1 tk1 hx1 sn1 hp1 => wpAny_pure ?_)
      replace hp1 : Heap.SameBut i1 h₁ p1 := hp1
      refine wpAny_pure ?_
      refine wpAny_bind (wpAny_bind (wpAny_holding ?_))
      show wpAny _ _ (Builtin.SmallTypes.nextOf (.ref i2) >>= _) _ _ ⟨p1, g, d, tk1, os⟩
      refine wpAny_bind (hdone ⟨p1, g, d, tk1, os⟩ _ _ (D2.over (D2.over st2 hs₁ S.zf2) hp1 S.sep1_2) fun q e hq he => ?_)
      replace hq : Heap.ExtBut i2 p1 q := hq
      exact hE q tk1 e (fun c o cz _ c1 c2 x => hq _ _ c2 (hp1.extBut _ _ c1 (hs₁.extBut _ _ cz x))) he
    · refine wpAny_bind (hdone ⟨h₁, g, d, tk0, os⟩ _ _ (D1.over st1 hs₁ S.zf1) fun q e hq he => ?_)
      replace hq : Heap.ExtBut i1 h₁ q := hq
      exact hE q tk0 e (fun c o cz _ c1 _ x => hq _ _ c1 (hs₁.extBut _ _ cz x)) he
theorem nextOf_zipX {Q : Value → Shared → Prop} (S : ZipSep2 z TI TO i1 i2 fp1 fp2) (D1 : Draws prog w A.in1 i1 fp1 n1 P1 St1) (D2 : Draws prog w A.in1 i2 fp2 n2 P2 St2)
    (hz : IsZ s.heap z TI TO f0 f1) (hf : ZF f0) (hTI : IsTupOf2 s.heap TI (.ref i1) (.ref i2)) (hTO : IsTupOf2 s.heap TO a1 a2) (st1 : St1 i s.heap) (st2 : St2 i s.heap) (hlt1 : i < n1) (hlt2 : i < n2)
    (hQ : ∀ x1 x2 f0' f1' b1 b2 h' tk, P1 i x1 → P2 i x2 → ZF f0' → IsZ h' z TI TO f0' f1' → IsTupOf2 h' TO b1 b2 → St1 (i + 1) h' → St2 (i + 1) h' → IsTupOf2 h' s.heap.objs.size x1 x2 → h'.objs.size = s.heap.objs.size + 1 →
      (∀ c o, c ≠ z → c ≠ TO → c ≠ i1 → c ≠ i2 → s.heap.get? c = some o → h'.get? c = some o) → Q (.ref s.heap.objs.size) { s with heap := h', toks := tk }) :
    wpAny (model prog w) A (Builtin.SmallTypes.nextOf (.ref z)) Q E s := by
  have hT : s.TypeIs (.ref z) "zip" := ⟨_, hz, rfl⟩
  unfold Builtin.SmallTypes.nextOf
  exact wpAny_bind (wpAny_callSpecial?_slot (name := Str.ofString "__next__") hT F.slot_zip_next
    (wpAny_call_entry F.slot_zip_next hT F.entry_zip_next
      (zipX_next_item S D1 D2 hz hf hTI hTO st1 st2 hlt1 hlt2 fun x1 x2 f0' f1' b1 b2 h' tk y1 y2 y3 y4 y5 y6 y7 y8 y9 y10 => wpAny_pure (hQ x1 x2 f0' f1' b1 b2 h' tk y1 y2 y3 y4 y5 y6 y7 y8 y9 y10)) (F.args_zip_next_1 _)))
theorem nextOf_zipX_end {Q : Value → Shared → Prop} (S : ZipSep2 z TI TO i1 i2 fp1 fp2) (D1 : Draws prog w A.in1 i1 fp1 n1 P1 St1) (D2 : Draws prog w A.in1 i2 fp2 n2 P2 St2)
    (hz : IsZ s.heap z TI TO f0 f1) (hf : ZF f0) (hTI : IsTupOf2 s.heap TI (.ref i1) (.ref i2)) (hTO : IsTupOf2 s.heap TO a1 a2) (st1 : St1 i s.heap) (st2 : St2 i s.heap) (hend : (∀ (s' : Shared) (Q' : Value → Shared → Prop) (E' : Value → Shared → Prop), St1 i s'.heap → (∀ h' e, Heap.ExtBut i1 s'.heap h' → (∃ o, h'.get? e = some o ∧ o.cls = .type "StopIteration") → E' (.ref e) { s' with heap := h' }) → wpAny (model prog w) A.in1 (Builtin.SmallTypes.nextOf (.ref i1)) Q' E' s') ∨ (i < n1 ∧ (∀ (s' : Shared) (Q' : Value → Shared → Prop) (E' : Value → Shared → Prop), St2 i s'.heap → (∀ h' e, Heap.ExtBut i2 s'.heap h' → (∃ o, h'.get? e = some o ∧ o.cls = .type "StopIteration") → E' (.ref e) { s' with heap := h' }) → wpAny (model prog w) A.in1 (Builtin.SmallTypes.nextOf (.ref i2)) Q' E' s')))
    (hE : ∀ h' tk e, (∀ c o, c ≠ z → c ≠ TO → c ≠ i1 → c ≠ i2 → s.heap.get? c = some o → h'.get? c = some o) → (∃ o, h'.get? e = some o ∧ o.cls = .type "StopIteration") → E (.ref e) { s with heap := h', toks := tk }) :
    wpAny (model prog w) A (Builtin.SmallTypes.nextOf (.ref z)) Q E s := by
  have hT : s.TypeIs (.ref z) "zip" := ⟨_, hz, rfl⟩
  unfold Builtin.SmallTypes.nextOf
  exact wpAny_bind (wpAny_callSpecial?_slot (name := Str.ofString "__next__") hT F.slot_zip_next
    (wpAny_call_entry F.slot_zip_next hT F.entry_zip_next (zipX_next_end S D1 D2 hz hf hTI hTO st1 st2 hend hE) (F.args_zip_next_1 _)))
end
section
variable {prog : Program} {w : World} {A : Around} {E : Value → Shared → Prop} {s : Shared}
theorem enumX_next_item {e it : Addr} {c : Int} {old : Value} {N : Value → Heap → Nat → Prop} {Q : Value → Shared → Prop}
    (hN : ∀ (Q' : Value → Shared → Prop) (E' : Value → Shared → Prop), (∀ x h1 tk, N x h1 tk → Q' x { s with heap := h1, toks := tk }) → wpAny (model prog w) A (Builtin.SmallTypes.nextOf (.ref it)) Q' E' s)
    (he : IsEnum s.heap e it c old) (hNe : ∀ x h1 tk, N x h1 tk → IsEnum h1 e it c old)
    (hQ : ∀ x h1 tk h', N x h1 tk → IsEnumOut h' e it (c + 1) x h1.objs.size → h'.get? h1.objs.size = some { cls := .type "tuple", data := .seq #[.int c tk, x] } → h'.objs.size = h1.objs.size + 1 →
      (∀ b o, b ≠ e → h1.get? b = some o → h'.get? b = some o) → Q (.ref h1.objs.size) { s with heap := h', toks := tk + 1 }) :
    wpAny (model prog w) A (Builtin.«enumerate.__next__» ⟨[.ref e], []⟩) (fun fin s' => ∃ v, fin = .done (.ret v) ∧ Q v s') E s := by
  obtain ⟨hp, g, d, tk₀, os⟩ := s
  show wpAny _ _ (field (.ref e) 2 >>= _) _ _ _
  refine wpAny_bind (wpAny_field he rfl (x := .ref it) rfl ?_)
  refine wpAny_bind (hN _ _ fun x h₁ tk hN1 => ?_)
  have he₁ : IsEnum h₁ e it c old := hNe _ _ _ hN1
  show wpAny _ _ (field (.ref e) 3 >>= _) _ _ ⟨h₁, g, d, tk, os⟩
  refine wpAny_bind (wpAny_field he₁ rfl (x := rawInt c) rfl ?_)
  show wpAny _ _ (field (.ref e) 4 >>= _) _ _ ⟨h₁, g, d, tk, os⟩
  refine wpAny_bind (wpAny_field he₁ rfl (x := .none) rfl ?_)
  show wpAny _ _ (mkInt c >>= _) _ _ ⟨h₁, g, d, tk, os⟩
  refine wpAny_bind (wpAny_mkInt ?_)
  show wpAny _ _ (setField (.ref e) 3 (rawInt (c + 1)) >>= _) _ _ ⟨h₁, g, d, tk + 1, os⟩
  refine wpAny_bind (wpAny_setField_rec he₁ (by simp) fun h₂ he₂ hs₂ => ?_)
  replace hs₂ : Heap.SameBut e h₁ h₂ := hs₂
  replace he₂ : IsEnum h₂ e it (c + 1) old := he₂
  show wpAny _ _ (setField (.ref e) 4 .none >>= _) _ _ ⟨h₂, g, d, tk + 1, os⟩
  refine wpAny_bind (wpAny_setField_rec he₂ (by simp) fun h₃ he₃ hs₃ => ?_)
  replace hs₃ : Heap.SameBut e h₂ h₃ := hs₃
  replace he₃ : IsEnum h₃ e it (c + 1) old := he₃
  show wpAny _ _ (newTuple [.int c tk, x] >>= _) _ _ ⟨h₃, g, d, tk + 1, os⟩
  refine wpAny_bind (wpAny_newTuple ?_)
  have he₄ : IsEnum (h₃.push { cls := .type "tuple", data := .seq #[.int c tk, x] }) e it (c + 1) old := Heap.get?_push_of_some _ he₃
  generalize hh₄ : h₃.push { cls := .type "tuple", data := .seq #[.int c tk, x] } = h₄ at he₄
  have hsz : h₃.objs.size = h₁.objs.size := by rw [hs₃.1, hs₂.1]
  have hel : e < h₁.objs.size := Heap.lt_size he₁
  have ht₄ : h₄.get? h₁.objs.size = some { cls := .type "tuple", data := .seq #[.int c tk, x] } := by rw [← hh₄, ← hsz]; exact Heap.get?_push_size _ rfl
  have hz₄ : h₄.objs.size = h₁.objs.size + 1 := by rw [← hh₄, Heap.size_push, hsz]
  have hk₄ : ∀ b o, b ≠ e → h₁.get? b = some o → h₄.get? b = some o := fun b o hbe hb => by
    rw [← hh₄]; exact Heap.get?_push_of_some _ (hs₃.extBut b o hbe (hs₂.extBut b o hbe hb))
  show wpAny _ _ (Builtin.SmallTypes.ownedTupleIsFree (.ref e) >>= _) _ _ ⟨h₄, g, d, tk + 1, os⟩
  rw [hsz]
  clear hh₄ he₃ hs₃ he₂ hs₂ hsz h₃ h₂
  refine wpAny_bind ?_
  · unfold Builtin.SmallTypes.ownedTupleIsFree
    refine wpAny_bind (wpAny_field he₄ rfl (x := .none) rfl (wpAny_pure ?_))
    simp only [if_true]
    refine wpAny_bind (wpAny_rule ?_)
    refine wpAny_bind (wpAny_field he₄ rfl (x := old) rfl ?_)
    refine wpAny_bind (wpAny_setField_rec he₄ (by simp) fun h₅ he₅ hs₅ => ?_)
    replace hs₅ : Heap.SameBut e h₄ h₅ := hs₅
    replace he₅ : IsEnum h₅ e it (c + 1) x := he₅
    show wpAny _ _ (Builtin.SmallTypes.ownedTupleHandOut (.ref e) (.ref h₁.objs.size) >>= _) _ _ ⟨h₅, g, d, tk + 1, os⟩
    refine wpAny_bind ?_
    · unfold Builtin.SmallTypes.ownedTupleHandOut
      refine wpAny_bind (wpAny_setField_rec he₅ (by simp) fun h₆ he₆ hs₆ => ?_)
      replace hs₆ : Heap.SameBut e h₅ h₆ := hs₆
      replace he₆ : IsEnumOut h₆ e it (c + 1) x h₁.objs.size := he₆
      refine wpAny_setField_rec he₆ (by simp) fun h₇ he₇ hs₇ => ?_
      replace hs₇ : Heap.SameBut e h₆ h₇ := hs₇
      replace he₇ : IsEnumOut h₇ e it (c + 1) x h₁.objs.size := he₇
      refine wpAny_bind (wpAny_letGo (wpAny_pure ⟨_, rfl, hQ x h₁ tk h₇ hN1 he₇ ?_ ?_ ?_⟩))
      · exact hs₇.extBut _ _ (Nat.ne_of_gt hel) (hs₆.extBut _ _ (Nat.ne_of_gt hel) (hs₅.extBut _ _ (Nat.ne_of_gt hel) ht₄))
      · rw [hs₇.1, hs₆.1, hs₅.1, hz₄]
      · exact fun b o hbe hb => hs₇.extBut b o hbe (hs₆.extBut b o hbe (hs₅.extBut b o hbe (hk₄ b o hbe hb)))
theorem pyNext_enumX_item {e it : Addr} {c : Int} {old : Value} {N : Value → Heap → Nat → Prop} {Q : Option Value → Shared → Prop}
    (hN : ∀ (Q' : Value → Shared → Prop) (E' : Value → Shared → Prop), (∀ x h1 tk, N x h1 tk → Q' x { s with heap := h1, toks := tk }) → wpAny (model prog w) A.in1 (Builtin.SmallTypes.nextOf (.ref it)) Q' E' s)
    (he : IsEnum s.heap e it c old) (hNe : ∀ x h1 tk, N x h1 tk → IsEnum h1 e it c old)
    (hQ : ∀ x h1 tk h', N x h1 tk → IsEnumOut h' e it (c + 1) x h1.objs.size → h'.get? h1.objs.size = some { cls := .type "tuple", data := .seq #[.int c tk, x] } → h'.objs.size = h1.objs.size + 1 →
      (∀ b o, b ≠ e → h1.get? b = some o → h'.get? b = some o) → Q (some (.ref h1.objs.size)) { s with heap := h', toks := tk + 1 }) :
    wpAny (model prog w) A (pyNext (.ref e)) Q E s := by
  have hT : s.TypeIs (.ref e) "enumerate" := ⟨_, he, rfl⟩
  unfold pyNext
  exact wpAny_bind (wpAny_attempt (wpAny_callSpecial?_slot (name := Str.ofString "__next__") hT F.slot_enumerate_next
    (wpAny_call_entry F.slot_enumerate_next hT F.entry_enumerate_next
      (enumX_next_item hN he hNe fun x h1 tk h' a b c d k => wpAny_pure (hQ x h1 tk h' a b c d k)) (F.args_enumerate_next_1 _))))
theorem pyNext_enumX_end {e it : Addr} {c : Int} {old : Value} {N : Heap → Nat → Prop} {Q : Option Value → Shared → Prop}
    (hN : ∀ (Q' : Value → Shared → Prop) (E' : Value → Shared → Prop), (∀ h1 tk x, N h1 tk → (∃ o, h1.get? x = some o ∧ o.cls = .type "StopIteration") → E' (.ref x) { s with heap := h1, toks := tk }) → wpAny (model prog w) A.in1 (Builtin.SmallTypes.nextOf (.ref it)) Q' E' s)
    (he : IsEnum s.heap e it c old) (hQ : ∀ h' tk, N h' tk → Q none { s with heap := h', toks := tk }) : wpAny (model prog w) A (pyNext (.ref e)) Q E s := by
  have hT : s.TypeIs (.ref e) "enumerate" := ⟨_, he, rfl⟩
  unfold pyNext
  refine wpAny_bind (wpAny_attempt (wpAny_callSpecial?_slot (name := Str.ofString "__next__") hT F.slot_enumerate_next
    (wpAny_call_entry F.slot_enumerate_next hT F.entry_enumerate_next ?_ (F.args_enumerate_next_1 _))))
  show wpAny _ _ (field (.ref e) 2 >>= _) _ _ _
  refine wpAny_bind (wpAny_field he rfl (x := .ref it) rfl ?_)
  refine wpAny_bind (hN _ _ fun h' tk x hn hx' => ?_)
  obtain ⟨o, ho, hc⟩ := hx'
  refine wpAny_bind (wpAny_isInstance (T := "StopIteration") (b := true) ⟨o, ho, hc⟩ isSubtype_stop ?_)
  exact wpAny_pure (hQ _ _ hn)
end
end PySem

namespace PySem
open Sem (wp)
open AutoSeq1 (wpAny_loadPart')
theorem meets_enumerate_newZ (z TI TO : Addr) (f0 : Value) :
    Meets (Builtin.«enumerate.__new__» ⟨[.type "enumerate", .ref z], []⟩) (fun _ R s => IsZip s.heap z TI TO f0 ∧
      R (.ok (.ret (.ref s.heap.objs.size))) { s with heap := s.heap.push { cls := .type "enumerate", data := .fields #[.none, .bool false, .ref z, rawInt 0, .none, .none] } }) :=
  .of_wp fun prog w A R s h => by
    obtain ⟨hp, g, d, tk, os⟩ := s; obtain ⟨hz, h⟩ := h
    have hsub := sub_enumerate
    have q1 : ∀ {A' : Around} {E : Value → Shared → Prop} {Q : Value → Shared → Prop}, Q (.ref z) ⟨hp, g, d, tk, os⟩ → wpAny (model prog w) A' (pyIter (.ref z)) Q E ⟨hp, g, d, tk, os⟩ :=
      fun q => wpAny_pyIter_zip (s := ⟨hp, g, d, tk, os⟩) hz q
    wp_walk using q1
    refine wpAny_stack_any fun st => wpAny_pure ?_
    split
    · rename_i c _ _ _ _ _
      cases (c == Value.type "enumerate")
      · wp_walk using q1
        exact ⟨_, rfl, h⟩
      · wp_walk using q1
        exact ⟨_, rfl, h⟩
    · wp_walk using q1
      exact ⟨_, rfl, h⟩
theorem meets_enumerate_newT (t : Addr) (items : Array Value) :
    Meets (Builtin.«enumerate.__new__» ⟨[.type "enumerate", .ref t], []⟩) (fun _ R s => s.heap.IsTuple t items ∧
      R (.ok (.ret (.ref (s.heap.push { cls := .type "tuple_iterator", data := .fields #[.ref t, .int 0 0] }).objs.size)))
        { s with heap := (s.heap.push { cls := .type "tuple_iterator", data := .fields #[.ref t, .int 0 0] }).push { cls := .type "enumerate", data := .fields #[.none, .bool false, .ref s.heap.objs.size, rawInt 0, .none, .none] } }) :=
  .of_wp fun prog w A R s h => by
    obtain ⟨hp, g, d, tk, os⟩ := s; obtain ⟨ht, h⟩ := h
    have hsub := sub_enumerate
    have q1 : ∀ {A' : Around} {E : Value → Shared → Prop} {Q : Value → Shared → Prop}, Q (.ref hp.objs.size) ⟨hp.push { cls := .type "tuple_iterator", data := .fields #[.ref t, .int 0 0] }, g, d, tk, os⟩ → wpAny (model prog w) A' (pyIter (.ref t)) Q E ⟨hp, g, d, tk, os⟩ :=
      fun q => (begins_tuple t items).iter prog w _ _ ⟨hp, g, d, tk, os⟩ _ ht q
    wp_walk using q1
    refine wpAny_stack_any fun st => wpAny_pure ?_
    split
    · rename_i c _ _ _ _ _
      cases (c == Value.type "enumerate")
      · wp_walk using q1
        exact ⟨_, rfl, h⟩
      · wp_walk using q1
        exact ⟨_, rfl, h⟩
    · wp_walk using q1
      exact ⟨_, rfl, h⟩
section
variable {prog : Program} {w : World} {A : Around} {E : Value → Shared → Prop} {s : Shared}
theorem call_enumerate_zip {z TI TO : Addr} {f0 : Value} {Q : Value → Shared → Prop} (hz : IsZip s.heap z TI TO f0)
    (h : ∀ h', IsEnum h' s.heap.objs.size z 0 .none → h'.objs.size = s.heap.objs.size + 1 → (∀ b o, s.heap.get? b = some o → h'.get? b = some o) → Q (.ref s.heap.objs.size) { s with heap := h' }) :
    wpAny (model prog w) A (call (.type "enumerate") [.ref z]) Q E s := by
  refine callType_new F.called_enumerate (by decide) (F.typeCall_enumerate_1 _) (F.newCall_enumerate_1 _) (fun obj => F.args_object_init_2 obj _) F.entry_enumerate_new
    (meets_enumerate_newZ z TI TO f0) ⟨hz, ?_⟩
  have he : IsEnum (s.heap.push { cls := .type "enumerate", data := .fields #[.none, .bool false, .ref z, rawInt 0, .none, .none] }) s.heap.objs.size z 0 .none := Heap.get?_push_size _ rfl
  exact ⟨⟨_, he, rfl⟩, h _ he (Heap.size_push ..) fun b o x => Heap.get?_push_of_some _ x⟩
theorem call_enumerate_tuple {t : Addr} {items : Array Value} {Q : Value → Shared → Prop} (ht : s.heap.IsTuple t items)
    (h : ∀ h', IsEnum h' (s.heap.objs.size + 1) s.heap.objs.size 0 .none → h'.IsTupleIter s.heap.objs.size t 0 → h'.objs.size = s.heap.objs.size + 2 →
      (∀ b o, s.heap.get? b = some o → h'.get? b = some o) → Q (.ref (s.heap.objs.size + 1)) { s with heap := h' }) :
    wpAny (model prog w) A (call (.type "enumerate") [.ref t]) Q E s := by
  refine callType_new F.called_enumerate (by decide) (F.typeCall_enumerate_1 _) (F.newCall_enumerate_1 _) (fun obj => F.args_object_init_2 obj _) F.entry_enumerate_new
    (meets_enumerate_newT t items) ⟨ht, ?_⟩
  have hz : (s.heap.push { cls := .type "tuple_iterator", data := .fields #[.ref t, .int 0 0] }).objs.size = s.heap.objs.size + 1 := Heap.size_push ..
  show _ ∧ _
  rw [hz]
  have he : IsEnum ((s.heap.push { cls := .type "tuple_iterator", data := .fields #[.ref t, .int 0 0] }).push
      { cls := .type "enumerate", data := .fields #[.none, .bool false, .ref s.heap.objs.size, rawInt 0, .none, .none] }) (s.heap.objs.size + 1) s.heap.objs.size 0 .none := by
    have := Heap.get?_push_size (s.heap.push { cls := .type "tuple_iterator", data := .fields #[.ref t, .int 0 0] })
      (o := { cls := .type "enumerate", data := .fields #[.none, .bool false, .ref s.heap.objs.size, rawInt 0, .none, .none] }) rfl
    rw [hz] at this; exact this
  exact ⟨⟨_, he, rfl⟩, h _ he ⟨_, Heap.get?_push_of_some _ (Heap.get?_push_size _ rfl), rfl, rfl⟩ (by rw [Heap.size_push, hz]) fun b o x => Heap.get?_push_of_some _ (Heap.get?_push_of_some _ x)⟩
end
end PySem

namespace L2
open PySem PySem.Spec PyProof.Rows RZ
def IteT (K : PySem.W.Frag) (a : Addr) : It :=
  ⟨fun i H => ∃ (xs : List V) (x : V), SqT K H a xs ∧ xs[i]? = some x, fun i H v H' => ∃ T x, v = .ref T ∧ H T = none ∧ H' = upd H T (.tup [.int (i : Nat), x]) ∧ ∀ xs, SqT K H a xs → xs[i]? = some x, fun i H => ∃ xs : List V, SqT K H a xs ∧ xs.length ≤ i⟩
theorem turn_enumT {P : Program} {w : World} {K : PySem.W.Frag} {elts : List Expr} {kk : Nat} {tpos : Pos} {a e it : Addr} (hai : a ≠ it) (hea : e ≠ a) (hne : e ≠ it) :
    Turn P w K (.Tuple elts kk tpos) (IteT K a) [e, it] e (fun i h => (∃ old, IsEnum h e it ((i : Nat) : Int) old) ∧ h.IsTupleIter it a i) where
  mem := by simp
  obj := fun i h st b hb => by
    obtain ⟨⟨old, he⟩, ⟨o, ho, hc, hd⟩⟩ := st
    have e' : b = e ∨ b = it := by simpa using hb
    rcases e' with z | z
    · rw [z]; exact ⟨_, he, fun v q => nomatch q⟩
    · rw [z]; exact ⟨o, ho, fun v q => by rw [hd] at q; cases q⟩
  keep := fun i h h' st k => let ⟨⟨old, he⟩, hi⟩ := st; ⟨⟨old, k e (by simp) _ he⟩, hi.at fun o q => k it (by simp) o q⟩
  item := by
    intro X hP hw hK hc i pins s σ H E I hf st hg
    subst hP hw hK
    obtain ⟨⟨old, he⟩, hit⟩ := st
    obtain ⟨xs, x, hq, hx⟩ := hg
    obtain ⟨its, rv, p, hz⟩ := I.tuple hq
    obtain ⟨u, hu, ru⟩ := rv.get hx
    have hlt : i < its.toArray.size := by
      have := (List.getElem?_eq_some_iff.mp hu).1
      simpa using this
    have hel : e < s.heap.objs.size := Heap.lt_size he
    have hil : it < s.heap.objs.size := by obtain ⟨_, q, _⟩ := hit; exact Heap.lt_size q
    have D : Draws X.prog X.w X.A.in1 it [it, a] its.toArray.size (fun i v => its.toArray[i]? = some v) (fun i h => h.IsTupleIter it a i ∧ h.IsTuple a its.toArray) := Draws.tuple (A := X.A.in1) (show X.A.in1.handled = none from I.ok.hd hc) it a hai its.toArray
    refine wpAny_pyNext_enum_itemD D he ⟨hit, p⟩ hlt hne (by simp [hne, hea]) fun y h' tk hy ho hs' hT hsz hk => ?_
    have ey : y = u := by
      have hu' : its.toArray[i]? = some u := by simpa using hu
      exact Option.some.inj (hy.symm.trans hu')
    subst ey
    refine ⟨_, rfl, wpAny_letOwnedTupleGo_enum (s := { s with heap := h', toks := tk + 1 }) ho fun h'' he' sb => ?_⟩
    have hT2 : h''.get? s.heap.objs.size = some { cls := .type "tuple", data := .seq #[.int i tk, y] } := (sb.2 _ (Nat.ne_of_gt hel)).trans hT
    have new : ObjOk X.prog X.w (upd H s.heap.objs.size (.tup [.int (i : Nat), x])) h'' s.heap.objs.size (.tup [.int (i : Nat), x]) :=
      ⟨by show 2 ≤ sizeLine; decide, [.int i tk, y], .cons ⟨_, rfl⟩ (.cons ru .nil), ⟨_, hT2, rfl, _, rfl⟩⟩
    have I1 : Inv X pins σ (upd H s.heap.objs.size (.tup [.int (i : Nat), x])) { s with heap := h'', toks := tk + 1 } :=
      I.turnedNew (ch := [e, it]) (fun b ob hb q => (sb.2 b (fun z => hb (by simp [z]))).trans (hk b ob (fun z => hb (by simp [z])) (fun z => hb (by simp [z])) q)) hf (Nat.le_refl _) new
    refine ⟨.ref s.heap.objs.size, _, I1, rfl, ⟨_, x, rfl, I.hok.fresh (Nat.le_refl _), rfl, fun ys hy => by rw [I.tuple_inj hy hq]; exact hx⟩, ⟨⟨y, ?_⟩, hs'.1.at fun o q => (sb.2 it (Ne.symm hne)).trans q⟩, fun b hb => ?_⟩
    · have e1 : ((i + 1 : Nat) : Int) = (i : Int) + 1 := by omega
      rw [e1]; exact he'
    · have hb' : b < s.heap.objs.size := by
        have e' : b = e ∨ b = it := by simpa using hb
        rcases e' with z | z
        · rw [z]; exact hel
        · rw [z]; exact hil
      rw [upd_ne (Nat.ne_of_lt hb')]
      exact (hf b hb).1
  done := by
    intro X hP hw hK hc i pins s σ H E I hf st hg
    subst hP hw hK
    obtain ⟨⟨old, he⟩, hit⟩ := st
    obtain ⟨xs, hq, hx⟩ := hg
    obtain ⟨its, rv, p, hz⟩ := I.tuple hq
    obtain ⟨f0, f1, f2, f3, f4, f5⟩ := hf it (by simp)
    have hl := rv.length
    refine pyNext_enumX_end (N := fun h1 tk => Heap.ExtBut it s.heap h1 ∧ tk = s.toks) (fun Q' E' q => wpAny_nextOf_tuple_end (A := X.A.in1) (show X.A.in1.handled = none from I.ok.hd hc) hit p (by simp; omega) fun h' x eb ho => q h' s.toks x ⟨eb, rfl⟩ ho) he fun h' tk hn => ?_
    obtain ⟨eb, rfl⟩ := hn
    exact ⟨rfl, I.turned (t' := s.toks) (fun b o hb q => eb b o hb q) f0 f1 f3 f4 f5⟩
  self := fun A i s Q E st h => let ⟨⟨_, he⟩, _⟩ := st; wpAny_pyIter_enum he h
def IteZ (K : PySem.W.Frag) (a b : Addr) : It :=
  ⟨fun i H => ∃ (xs ys : List V) (x y : V), SqT K H a xs ∧ SqT K H b ys ∧ xs[i]? = some x ∧ ys[i]? = some y,
    fun i H v H' => ∃ T1 T2 x y, v = .ref T2 ∧ H T1 = none ∧ H T2 = none ∧ T1 ≠ T2 ∧ H' = upd (upd H T1 (.tup [x, y])) T2 (.tup [.int (i : Nat), .ref T1]) ∧ (∀ xs, SqT K H a xs → xs[i]? = some x) ∧ ∀ ys, SqT K H b ys → ys[i]? = some y,
    fun i H => ∃ xs ys : List V, SqT K H a xs ∧ SqT K H b ys ∧ (xs.length ≤ i ∨ ys.length ≤ i)⟩
theorem sep_of {z TI TO i1 i2 a b : Addr} (D : ZipApart z TI TO i1 i2 a b) : ZipSep2 z TI TO i1 i2 [i1, a] [i2, b] :=
  { TIz := D.TIz, TOz := D.TOz, TITO := D.TITO, TIi1 := D.TIi1, mem1 := by simp, zf1 := by simp [D.i1z.symm, D.l1z.symm], Tf1 := by simp [D.TOi1, D.l1TO.symm],
    TIi2 := D.TIi2, mem2 := by simp, zf2 := by simp [D.i2z.symm, D.l2z.symm], Tf2 := by simp [D.TOi2, D.l2TO.symm], sep1_2 := by simp [D.i12, D.l2i1.symm], sep2_1 := by simp [D.i12.symm, D.l1i2.symm] }
theorem turn_enumZ {P : Program} {w : World} {K : PySem.W.Frag} {elts : List Expr} {kk : Nat} {tpos : Pos} {a b e z TI TO i1 i2 : Addr} (D : ZipApart z TI TO i1 i2 a b) (ez : e ≠ z) (eTI : e ≠ TI) (eTO : e ≠ TO) (e1 : e ≠ i1) (e2 : e ≠ i2) :
    Turn P w K (.Tuple elts kk tpos) (IteZ K a b) [e, z, TI, TO, i1, i2] e (fun i h => (∃ old, IsEnum h e z ((i : Nat) : Int) old) ∧ (∃ f0 f1, ZF f0 ∧ IsZ h z TI TO f0 f1) ∧ IsPair h TI (.ref i1) (.ref i2) ∧ (∃ x y, IsPair h TO x y) ∧ h.IsTupleIter i1 a i ∧ h.IsTupleIter i2 b i) where
  mem := by simp
  obj := fun i h st c hc => by
    obtain ⟨⟨old, he⟩, ⟨f0, f1, _, hz⟩, hTI, ⟨x, y, hTO⟩, ⟨o1, e1, _, d1⟩, ⟨o2, e2, _, d2⟩⟩ := st
    have e' : c = e ∨ c = z ∨ c = TI ∨ c = TO ∨ c = i1 ∨ c = i2 := by simpa using hc
    rcases e' with q | q | q | q | q | q
    · rw [q]; exact ⟨_, he, fun v q => nomatch q⟩
    · rw [q]; exact ⟨_, hz, fun v q => nomatch q⟩
    · rw [q]; exact ⟨_, hTI, fun v q => nomatch q⟩
    · rw [q]; exact ⟨_, hTO, fun v q => nomatch q⟩
    · rw [q]; exact ⟨o1, e1, fun v q => by rw [d1] at q; cases q⟩
    · rw [q]; exact ⟨o2, e2, fun v q => by rw [d2] at q; cases q⟩
  keep := fun i h h' st k => by
    obtain ⟨⟨old, he⟩, ⟨f0, f1, hf, hz⟩, hTI, ⟨x, y, hTO⟩, h1, h2⟩ := st
    exact ⟨⟨old, k e (by simp) _ he⟩, ⟨f0, f1, hf, k z (by simp) _ hz⟩, k TI (by simp) _ hTI, ⟨x, y, k TO (by simp) _ hTO⟩, h1.at fun o q => k i1 (by simp) o q, h2.at fun o q => k i2 (by simp) o q⟩
  item := by
    intro X hP hw hK hc i pins s σ H E I hf st hg
    subst hP hw hK
    obtain ⟨⟨old, he⟩, ⟨f0, f1, hzf, hz⟩, hTI, ⟨x0, y0, hTO⟩, h1, h2⟩ := st
    obtain ⟨xs, ys, x, y, hqx, hqy, hx, hy⟩ := hg
    obtain ⟨its, rv, p, _⟩ := I.tuple hqx
    obtain ⟨its2, rv2, p2, _⟩ := I.tuple hqy
    obtain ⟨u, hu, ru⟩ := rv.get hx
    obtain ⟨u2, hu2, ru2⟩ := rv2.get hy
    have hlt1 : i < its.toArray.size := by simpa using (List.getElem?_eq_some_iff.mp hu).1
    have hlt2 : i < its2.toArray.size := by simpa using (List.getElem?_eq_some_iff.mp hu2).1
    have hh2 : X.A.in1.in1.handled = none := I.ok.hd hc
    have D1 : Draws X.prog X.w X.A.in1.in1 i1 [i1, a] its.toArray.size (fun i v => its.toArray[i]? = some v) (fun i h => h.IsTupleIter i1 a i ∧ h.IsTuple a its.toArray) := Draws.tuple hh2 i1 a D.l1i1 its.toArray
    have D2 : Draws X.prog X.w X.A.in1.in1 i2 [i2, b] its2.toArray.size (fun i v => its2.toArray[i]? = some v) (fun i h => h.IsTupleIter i2 b i ∧ h.IsTuple b its2.toArray) := Draws.tuple hh2 i2 b D.l2i2 its2.toArray
    have hel : e < s.heap.objs.size := Heap.lt_size he
    refine pyNext_enumX_item (it := z) (N := fun v h1 tk => v = .ref s.heap.objs.size ∧ ∃ f0' f1' b1 b2, ZF f0' ∧ IsZ h1 z TI TO f0' f1' ∧ IsTupOf2 h1 TO b1 b2 ∧ h1.IsTupleIter i1 a (i + 1) ∧ h1.IsTupleIter i2 b (i + 1) ∧ IsTupOf2 h1 s.heap.objs.size u u2 ∧ h1.objs.size = s.heap.objs.size + 1 ∧ ∀ c o, c ≠ z → c ≠ TO → c ≠ i1 → c ≠ i2 → s.heap.get? c = some o → h1.get? c = some o)
      (fun Q' E' q => nextOf_zipX (A := X.A.in1) (sep_of D) D1 D2 hz hzf hTI hTO ⟨h1, p⟩ ⟨h2, p2⟩ hlt1 hlt2 fun v1 v2 f0' f1' b1 b2 h' tk hv1 hv2 hzf' hz' hTO' n1 n2 hT hsz hk => ?_) he (fun v h1 tk hn => ?_) fun v g1 tk h' hn ho hT hsz hk => ?_
    · have q1 : v1 = u := by
        have hu' : its.toArray[i]? = some u := by simpa using hu
        exact Option.some.inj (hv1.symm.trans hu')
      have q2 : v2 = u2 := by
        have hu' : its2.toArray[i]? = some u2 := by simpa using hu2
        exact Option.some.inj (hv2.symm.trans hu')
      subst q1 q2
      exact q _ _ _ ⟨rfl, f0', f1', b1, b2, hzf', hz', hTO', n1.1, n2.1, hT, hsz, hk⟩
    · obtain ⟨_, f0', f1', b1, b2, _, _, _, _, _, _, _, hk⟩ := hn
      exact hk _ _ ez eTO e1 e2 he
    · obtain ⟨rfl, f0', f1', b1, b2, hzf', hz', hTO', n1, n2, hT1, hsz1, hk1⟩ := hn
      -- the pair is there
      have new1 : ObjOk X.prog X.w (upd H s.heap.objs.size (.tup [x, y])) g1 s.heap.objs.size (.tup [x, y]) :=
        ⟨by show 2 ≤ sizeLine; decide, [u, u2], .cons ru (.cons ru2 .nil), ⟨_, hT1, rfl, _, rfl⟩⟩
      have I1 : Inv X pins σ (upd H s.heap.objs.size (.tup [x, y])) { s with heap := g1, toks := tk } :=
        I.turnedNew (t' := tk) (ch := [e, z, TI, TO, i1, i2]) (fun c o hb q => hk1 c o (fun q' => hb (by simp [q'])) (fun q' => hb (by simp [q'])) (fun q' => hb (by simp [q'])) (fun q' => hb (by simp [q'])) q) hf (Nat.le_refl _) new1
      refine ⟨_, rfl, wpAny_letOwnedTupleGo_enum (s := { s with heap := h', toks := tk + 1 }) ho fun h'' he' sb => ?_⟩
      have hel1 : e < g1.objs.size := by rw [hsz1]; exact Nat.lt_succ_of_lt hel
      have hT2 : h''.get? g1.objs.size = some { cls := .type "tuple", data := .seq #[.int i tk, .ref s.heap.objs.size] } := (sb.2 _ (Nat.ne_of_gt hel1)).trans hT
      have hlt : ∀ c ∈ [e, z, TI, TO, i1, i2], c < s.heap.objs.size := fun c hcm => by
        have e' : c = e ∨ c = z ∨ c = TI ∨ c = TO ∨ c = i1 ∨ c = i2 := by simpa using hcm
        rcases e' with q | q | q | q | q | q
        · rw [q]; exact hel
        · rw [q]; exact Heap.lt_size hz
        · rw [q]; exact Heap.lt_size hTI
        · rw [q]; exact Heap.lt_size hTO
        · rw [q]; obtain ⟨_, e1, _⟩ := h1; exact Heap.lt_size e1
        · rw [q]; obtain ⟨_, e2, _⟩ := h2; exact Heap.lt_size e2
      have hf1 : ∀ c ∈ [e], FpOk X pins (upd H s.heap.objs.size (.tup [x, y])) c := fun c hcm => by
        have e' : c = e := by simpa using hcm
        subst e'
        obtain ⟨f0, f1, f2, f3, f4, f5⟩ := hf c (by simp)
        refine ⟨?_, f1, f2, f3, f4, f5⟩
        rw [upd_ne (Nat.ne_of_lt hel)]
        exact f0
      have hup : ∀ c o, c ≠ e → g1.get? c = some o → h''.get? c = some o := fun c o hce q => (sb.2 c hce).trans (hk c o hce q)
      have new2 : ObjOk X.prog X.w (upd (upd H s.heap.objs.size (.tup [x, y])) g1.objs.size (.tup [.int (i : Nat), .ref s.heap.objs.size])) h'' g1.objs.size (.tup [.int (i : Nat), .ref s.heap.objs.size]) :=
        ⟨by show 2 ≤ sizeLine; decide, [.int i tk, .ref s.heap.objs.size], .cons ⟨_, rfl⟩ (.cons rfl .nil), ⟨_, hT2, rfl, _, rfl⟩⟩
      have I2 : Inv X pins σ (upd (upd H s.heap.objs.size (.tup [x, y])) g1.objs.size (.tup [.int (i : Nat), .ref s.heap.objs.size])) { s with heap := h'', toks := tk + 1 } :=
        I1.turnedNew (t' := tk + 1) (ch := [e]) (fun c o hb q => hup c o (fun q' => hb (by simp [q'])) q) hf1 (Nat.le_refl _) new2
      refine ⟨.ref g1.objs.size, _, I2, rfl, ⟨s.heap.objs.size, g1.objs.size, x, y, rfl, I.hok.fresh (Nat.le_refl _), I.hok.fresh (by rw [hsz1]; exact Nat.le_succ _), by rw [hsz1]; exact Nat.ne_of_lt (Nat.lt_succ_self _), rfl, fun l hl => by rw [I.tuple_inj hl hqx]; exact hx, fun l hl => by rw [I.tuple_inj hl hqy]; exact hy⟩,
        ⟨⟨.ref s.heap.objs.size, ?_⟩, ⟨f0', f1', hzf', hup _ _ ez.symm hz'⟩, ?_, ⟨b1, b2, hup _ _ eTO.symm hTO'⟩, n1.at fun o q => hup _ o e1.symm q, n2.at fun o q => hup _ o e2.symm q⟩, fun c hcm => ?_⟩
      · have e1 : ((i + 1 : Nat) : Int) = (i : Int) + 1 := by omega
        rw [e1]
        exact he'
      · exact hup _ _ eTI.symm (hk1 _ _ D.TIz D.TITO D.TIi1 D.TIi2 hTI)
      · have hc' := hlt c hcm
        rw [upd_ne (by rw [hsz1]; exact Nat.ne_of_lt (Nat.lt_succ_of_lt hc')), upd_ne (Nat.ne_of_lt hc')]
        exact (hf c hcm).1
  done := by
    intro X hP hw hK hc i pins s σ H E I hf st hg
    subst hP hw hK
    obtain ⟨⟨old, he⟩, ⟨f0, f1, hzf, hz⟩, hTI, ⟨x0, y0, hTO⟩, h1, h2⟩ := st
    obtain ⟨xs, ys, hqx, hqy, hend⟩ := hg
    obtain ⟨its, rv, p, _⟩ := I.tuple hqx
    obtain ⟨its2, rv2, p2, _⟩ := I.tuple hqy
    have l1 := rv.length
    have l2 := rv2.length
    have hh2 : X.A.in1.in1.handled = none := I.ok.hd hc
    have D1 : Draws X.prog X.w X.A.in1.in1 i1 [i1, a] its.toArray.size (fun i v => its.toArray[i]? = some v) (fun i h => h.IsTupleIter i1 a i ∧ h.IsTuple a its.toArray) := Draws.tuple hh2 i1 a D.l1i1 its.toArray
    have D2 : Draws X.prog X.w X.A.in1.in1 i2 [i2, b] its2.toArray.size (fun i v => its2.toArray[i]? = some v) (fun i h => h.IsTupleIter i2 b i ∧ h.IsTuple b its2.toArray) := Draws.tuple hh2 i2 b D.l2i2 its2.toArray
    have size1 : its.toArray.size = its.length := by simp
    have size2 : its2.toArray.size = its2.length := by simp
    refine pyNext_enumX_end (N := fun h1 tk => ∀ c o, c ≠ z → c ≠ TO → c ≠ i1 → c ≠ i2 → s.heap.get? c = some o → h1.get? c = some o)
      (fun Q' E' q => nextOf_zipX_end (A := X.A.in1) (sep_of D) D1 D2 hz hzf hTI hTO ⟨h1, p⟩ ⟨h2, p2⟩ ?_ fun h' tk x hk ho => q h' tk x hk ho) he fun h' tk hk => ?_
    · by_cases hlt : i < its.length
      · refine .inr ⟨by rw [size1]; exact hlt, fun s' Q' E' st k => wpAny_nextOf_tuple_end hh2 st.1 st.2 ?_ k⟩
        simp
        omega
      · refine .inl fun s' Q' E' st k => wpAny_nextOf_tuple_end hh2 st.1 st.2 ?_ k
        simp
        omega
    · exact ⟨rfl, I.turnedL (t' := tk) (ch := [e, z, TI, TO, i1, i2]) (fun c o hb q => hk c o (fun q' => hb (by simp [q'])) (fun q' => hb (by simp [q'])) (fun q' => hb (by simp [q'])) (fun q' => hb (by simp [q'])) q) hf⟩
  self := fun A i s Q E st h => let ⟨⟨_, he⟩, _⟩ := st; wpAny_pyIter_enum he h
end L2

namespace L2
open PySem PySem.Spec PyProof.Rows RZ
def iEnumA (K : PySem.W.Frag) (ta : TA) : TI := fun σ H R => ta σ H fun vs H1 => ∃ a xs, vs = [.ref a] ∧ ((SqL K H1 a xs ∧ R (Ite K a) H1) ∨ (SqT K H1 a xs ∧ R (IteT K a) H1))
theorem pi_enumA {X : Cx} {e : Expr} {ta : TA} {p pos tpos : Pos} {elts : List Expr} {kk : Nat} (hg : Gl X "enumerate") (hm : X.mg "enumerate" = none) (ha : PA X [e] ta) (hs : starEach [e] X.env = [(false, eval e X.env)] := by rfl) :
    PI X (.Tuple elts kk tpos) (.Call (.Name "enumerate" p) [e] [] pos) (iEnumA X.K ta) := by
  refine ⟨fun pins s σ H R I h => ?_⟩
  refine Call_ (ld_blt I hg hm boot_enumerate (PyProof.Rows.callWith_type1 (thn (ha.run pos pins s σ H _ I h) fun us s1 ⟨vs, H1, I1, r1, q1⟩ => ?_) hs rfl))
  obtain ⟨a, xs, ex, q⟩ := q1
  subst ex
  cases r1 with
  | cons r rr =>
    cases rr
    cases r
    have fresh2 : ∀ c, c ∈ [s1.heap.objs.size + 1, s1.heap.objs.size] → FpOk X pins H1 c := fun b hb => by
      have e' : b = s1.heap.objs.size + 1 ∨ b = s1.heap.objs.size := by simpa using hb
      have hle : s1.heap.objs.size ≤ b := by
        rcases e' with z | z
        · rw [z]; exact Nat.le_add_right _ _
        · rw [z]; exact Nat.le_refl _
      exact I1.fpOk hle (I1.hok.fresh hle)
    rcases q with ⟨hq, q⟩ | ⟨hq, q⟩
    · obtain ⟨its, rv, p', hz⟩ := I1.list hq
      refine call_enumerate_list p'.isList fun h' he hit hsz hk => wpAny_pyIter_enum he ?_
      have I2 : Inv X pins σ H1 { s1 with heap := h' } := I1.kept (t' := s1.toks) hk
      exact ⟨s1.heap.objs.size + 1, [s1.heap.objs.size + 1, s1.heap.objs.size], _, _, H1, rfl, I2, turn_enum a (s1.heap.objs.size + 1) s1.heap.objs.size, ⟨⟨.none, he⟩, hit, Nat.succ_ne_self _⟩, fresh2, q⟩
    · obtain ⟨its, rv, p', _⟩ := I1.tuple hq
      obtain ⟨o1, ho1, _⟩ := id p'
      have hal : a < s1.heap.objs.size := Heap.lt_size ho1
      refine call_enumerate_tuple (show s1.heap.IsTuple a its.toArray from p') fun h' he hit hsz hk => wpAny_pyIter_enum he ?_
      have I2 : Inv X pins σ H1 { s1 with heap := h' } := I1.kept (t' := s1.toks) hk
      exact ⟨s1.heap.objs.size + 1, [s1.heap.objs.size + 1, s1.heap.objs.size], _, _, H1, rfl, I2, turn_enumT (Nat.ne_of_lt hal) (Nat.ne_of_gt (Nat.lt_succ_of_lt hal)) (Nat.succ_ne_self _), ⟨⟨.none, he⟩, hit⟩, fresh2, q⟩
def iEnumZ (K : PySem.W.Frag) (ta : TA) : TI := fun σ H R => ta σ H fun vs H1 => ∃ a b xs ys, vs = [.ref a, .ref b] ∧ SqT K H1 a xs ∧ SqT K H1 b ys ∧ R (IteZ K a b) H1
theorem pi_enumZ {X : Cx} {e e2 : Expr} {ta : TA} {p pz pos posz tpos : Pos} {elts : List Expr} {kk : Nat} (hg : Gl X "enumerate") (hm : X.mg "enumerate" = none) (hgz : Gl X "zip") (hmz : X.mg "zip" = none) (ha : PA X [e, e2] ta)
    (hs0 : starEach [.Call (.Name "zip" pz) [e, e2] [] posz] X.env = [(false, eval (.Call (.Name "zip" pz) [e, e2] [] posz) X.env)] := by rfl)
    (hs : starEach [e, e2] X.env = (false, eval e X.env) :: starEach [e2] X.env := by rfl) (hpl : (backTo posz (starEach [e2] X.env)).any (·.1) = false := by rfl) :
    PI X (.Tuple elts kk tpos) (.Call (.Name "enumerate" p) [.Call (.Name "zip" pz) [e, e2] [] posz] [] pos) (iEnumZ X.K ta) := by
  refine ⟨fun pins s σ H R I h => ?_⟩
  refine Call_ (ld_blt I hg hm boot_enumerate (PyProof.Rows.callWith_type1 ?_ hs0 rfl))
  rw [hs0]
  show wpAny _ _ (spliced [(false, eval (.Call (.Name "zip" pz) [e, e2] [] posz) X.env)]) _ _ s
  refine Calls.spliced_cons ?_
  refine Call_ (ld_blt I hgz hmz PyProof.Rows.boot_zip (PyProof.Rows.callWith_type1 (thn (ha.run posz pins s σ H _ I h) fun us s1 ⟨vs, H1, I1, r1, q1⟩ => ?_) hs hpl))
  obtain ⟨a, b, xs, ys, ex, hqx, hqy, q⟩ := q1
  subst ex
  cases r1 with
  | cons r rr =>
    cases rr with
    | cons r' rr =>
      cases rr
      cases r
      cases r'
      obtain ⟨its, rv, p1, _⟩ := I1.tuple hqx
      obtain ⟨its2, rv2, p2, _⟩ := I1.tuple hqy
      obtain ⟨o1, ho1, _⟩ := id p1
      obtain ⟨o2, ho2, _⟩ := id p2
      refine call_zipT (show s1.heap.IsTuple a its.toArray from p1) (show s1.heap.IsTuple b its2.toArray from p2) fun h' hz hTI hTO h1 h2 hsz hk => ?_
      refine Calls.spliced_nil ?_
      refine call_enumerate_zip (s := { s1 with heap := h' }) hz fun h'' he hsz2 hk2 => wpAny_pyIter_enum he ?_
      have I2 : Inv X pins σ H1 { s1 with heap := h'' } := I1.kept (t' := s1.toks) fun b o q => hk2 b o (hk b o q)
      have A := PySem.W.ktu_apart s1.heap.objs.size a b (Heap.lt_size ho1) (Heap.lt_size ho2)
      have es : h'.objs.size = s1.heap.objs.size + 5 := hsz
      refine ⟨h'.objs.size, [h'.objs.size, s1.heap.objs.size + 4, s1.heap.objs.size + 2, s1.heap.objs.size + 3, s1.heap.objs.size, s1.heap.objs.size + 1], _, _, H1, rfl, I2,
        turn_enumZ A ?_ ?_ ?_ ?_ ?_, ⟨⟨_, he⟩, ⟨_, _, .inl rfl, hk2 _ _ hz⟩, hk2 _ _ hTI, ⟨_, _, hk2 _ _ hTO⟩, h1.at fun o q => hk2 _ o q, h2.at fun o q => hk2 _ o q⟩, fun c hcm => ?_, q⟩
      · rw [es]; exact Nat.ne_of_gt (Nat.lt_succ_self _)
      · rw [es]; exact Nat.ne_of_gt (Nat.add_lt_add_left (by decide : 2 < 5) _)
      · rw [es]; exact Nat.ne_of_gt (Nat.add_lt_add_left (by decide : 3 < 5) _)
      · rw [es]; exact Nat.ne_of_gt (Nat.lt_add_of_pos_right (by decide))
      · rw [es]; exact Nat.ne_of_gt (Nat.add_lt_add_left (by decide : 1 < 5) _)
      · have e' : c = h'.objs.size ∨ c = s1.heap.objs.size + 4 ∨ c = s1.heap.objs.size + 2 ∨ c = s1.heap.objs.size + 3 ∨ c = s1.heap.objs.size ∨ c = s1.heap.objs.size + 1 := by simpa using hcm
        have hle : s1.heap.objs.size ≤ c := by
          rcases e' with z | z | z | z | z | z
          · rw [z, es]; exact Nat.le_add_right _ _
          · rw [z]; exact Nat.le_add_right _ _
          · rw [z]; exact Nat.le_add_right _ _
          · rw [z]; exact Nat.le_add_right _ _
          · rw [z]; exact Nat.le_refl _
          · rw [z]; exact Nat.le_add_right _ _
        exact I1.fpOk hle (I1.hok.fresh hle)
end L2

namespace Pd
open PySem PySem.Spec L2 RZ
section
variable {W : Wd} {G : Hp} {a b : Addr} {vs us : List V} {ds es : List D}
theorem walkD_enumT (h : SqT W.K G a vs) (r : RepsW W G vs ds) : WalkD W G (IteT W.K a) (enumD ds) := by
  have hl : vs.length = (enumD ds).length := by rw [r.length]; unfold enumD; simp
  refine ⟨fun H => SqT W.K H a vs, fun i H x H' => ∃ T x2, x = .ref T ∧ H T = none ∧ H' = upd H T (.tup [.int (i : Nat), x2]) ∧ vs[i]? = some x2, hl ▸ ⟨fun i _ hi q => ⟨vs, vs[i], q, by simp [hi]⟩, fun _ q => ⟨vs, q, Nat.le_refl _⟩, fun i H v H' _ q y => ?_⟩, fun H s => s.t h, fun i H x H' hi hg y => ?_⟩
  · obtain ⟨T, x, h1, h2, h3, h4⟩ := y
    exact ⟨T, x, h1, h2, h3, h4 vs q⟩
  · obtain ⟨T, x2, rfl, hT, rfl, e2⟩ := y
    obtain ⟨d, h1, h2⟩ := r.getV e2
    refine ⟨.tup [.int (i : Nat), d], ?_, fun G1 s1 s2 => ⟨_, alN hT, .tup upd_same (.cons (.int _) (.cons (h2.mono (s1.trans (Sub.new (s2.fresh hT)))) .nil))⟩⟩
    unfold enumD
    simp [h1]
theorem walkD_enumZ (h : SqT W.K G a vs) (h' : SqT W.K G b us) (rx : RepsW W G vs ds) (ry : RepsW W G us es) : WalkD W G (IteZ W.K a b) (enumD (zipD ds es)) := by
  have hl : (enumD (zipD ds es)).length = min vs.length us.length := by rw [rx.length, ry.length]; unfold enumD zipD; simp
  refine ⟨fun H => SqT W.K H a vs ∧ SqT W.K H b us, fun i H x H' => ∃ T1 T2 x1 x2, x = .ref T2 ∧ H T1 = none ∧ H T2 = none ∧ T1 ≠ T2 ∧ H' = upd (upd H T1 (.tup [x1, x2])) T2 (.tup [.int (i : Nat), .ref T1]) ∧ vs[i]? = some x1 ∧ us[i]? = some x2,
    ⟨fun i _ hi q => ?_, fun _ q => ⟨vs, us, q.1, q.2, by rw [hl]; omega⟩, fun i H v H' _ q y => ?_⟩, fun H s => ⟨s.t h, s.t h'⟩, fun i H x H' hi hg y => ?_⟩
  · rw [hl] at hi
    have h1 : i < vs.length := by omega
    have h2 : i < us.length := by omega
    exact ⟨vs, us, vs[i], us[i], q.1, q.2, by simp [h1], by simp [h2]⟩
  · obtain ⟨T1, T2, x, z, h1, h2, h3, h4, h5, h6, h7⟩ := y
    exact ⟨T1, T2, x, z, h1, h2, h3, h4, h5, h6 vs q.1, h7 us q.2⟩
  · obtain ⟨T1, T2, x1, x2, rfl, hT1, hT2, hne, rfl, e1, e2⟩ := y
    obtain ⟨d, k1, k2⟩ := rx.getV e1
    obtain ⟨d', k1', k2'⟩ := ry.getV e2
    refine ⟨.tup [.int (i : Nat), .tup [d, d']], ?_, fun G1 s1 s2 => ⟨upd (upd G1 T1 (.tup [x1, x2])) T2 (.tup [.int (i : Nat), .ref T1]), .step (.step (.refl _ _) hT1 (fun _ z => by cases z)) (by rw [upd_ne (Ne.symm hne)]; exact hT2) (fun _ z => by cases z), ?_⟩⟩
    · unfold enumD zipD
      rw [List.getElem?_map, List.getElem?_zipIdx, List.getElem?_map, List.getElem?_zip_eq_some (z := (d, d')) |>.mpr ⟨k1, k1'⟩]
      simp
    · have sn1 : Sub G1 (upd G1 T1 (.tup [x1, x2])) := Sub.new (s2.fresh hT1)
      have g2 : upd G1 T1 (.tup [x1, x2]) T2 = none := by rw [upd_ne (Ne.symm hne)]; exact s2.fresh hT2
      have sn2 : Sub (upd G1 T1 (.tup [x1, x2])) (upd (upd G1 T1 (.tup [x1, x2])) T2 (.tup [.int (i : Nat), .ref T1])) := Sub.new g2
      have sn := s1.trans (sn1.trans sn2)
      refine .tup upd_same (.cons (.int _) (.cons (.tup ?_ (.cons (k2.mono sn) (.cons (k2'.mono sn) .nil))) .nil))
      rw [upd_ne hne, upd_same]
end
section
variable {X : Cx} {WW : WX} {a b : Expr} {pos : Pos} {fs : AM}
def iEnumD2 (fs : AM) : AM := fun e p => (fs e p).bind fun ds e p => match ds with
  | [.lst xs] => .ok (enumD xs) e p
  | [.tup xs] => .ok (enumD xs) e p
  | _ => .bad
theorem di_enum2 {p tpos : Pos} {elts : List Expr} {kk : Nat} (hg : Gl X "enumerate") (hm : X.mg "enumerate" = none) (ha : DA X WW [a] fs) (hs : starEach [a] X.env = [(false, eval a X.env)] := by rfl) : DI X WW (.Tuple elts kk tpos) (.Call (.Name "enumerate" p) [a] [] pos) (iEnumD2 fs) :=
  PIw (pi_enumA hg hm ha hs) fun σ H Q q => (eai_w q).imp fun x H1 ⟨w, G, d, e, p, r, hx, q1⟩ => by
    split at q1
    · rename_i ds e' p' hk
      split at hk
      · cases hk
        obtain ⟨v, us, rfl, a1, a2⟩ := hx.inv
        cases a2
        cases a1 with
        | lst g1 g2 => exact ⟨_, _, rfl, .inl ⟨SqL.of (r.sub _ _ g1), q1 G _ H1 (Sub.refl _) r (walkD_enum (W := wd X w) g1 g2)⟩⟩
      · cases hk
        obtain ⟨v, us, rfl, a1, a2⟩ := hx.inv
        cases a2
        cases a1 with
        | tup g1 g2 => exact ⟨_, _, rfl, .inr ⟨SqT.of (r.sub _ _ g1), q1 G _ H1 (Sub.refl _) r (walkD_enumT (W := wd X w) (SqT.of g1) g2)⟩⟩
      · cases hk
    · rename_i hk
      split at hk <;> cases hk
    · exact q1.elim
def iEnumZD (fs : AM) : AM := fun e p => (fs e p).bind fun ds e p => match ds with
  | [.tup xs, .tup ys] => .ok (enumD (zipD xs ys)) e p
  | _ => .bad
theorem di_enumZ {p pz posz tpos : Pos} {elts : List Expr} {kk : Nat} (hg : Gl X "enumerate") (hm : X.mg "enumerate" = none) (hgz : Gl X "zip") (hmz : X.mg "zip" = none) (ha : DA X WW [a, b] fs)
    (hs0 : starEach [.Call (.Name "zip" pz) [a, b] [] posz] X.env = [(false, eval (.Call (.Name "zip" pz) [a, b] [] posz) X.env)] := by rfl)
    (hs : starEach [a, b] X.env = (false, eval a X.env) :: starEach [b] X.env := by rfl) (hpl : (backTo posz (starEach [b] X.env)).any (·.1) = false := by rfl) :
    DI X WW (.Tuple elts kk tpos) (.Call (.Name "enumerate" p) [.Call (.Name "zip" pz) [a, b] [] posz] [] pos) (iEnumZD fs) :=
  PIw (pi_enumZ hg hm hgz hmz ha hs0 hs hpl) fun σ H Q q => (eai_w q).imp fun x H1 ⟨w, G, d, e, p, r, hx, q1⟩ => by
    split at q1
    · rename_i ds e' p' hk
      split at hk
      · cases hk
        obtain ⟨v, us, rfl, a1, a2⟩ := hx.inv
        obtain ⟨v2, us2, rfl, b1, b2⟩ := a2.inv
        cases b2
        cases a1 with
        | tup g1 g2 => cases b1 with
          | tup k1 k2 => exact ⟨_, _, _, _, rfl, SqT.of (r.sub _ _ g1), SqT.of (r.sub _ _ k1), q1 G _ H1 (Sub.refl _) r (walkD_enumZ (W := wd X w) (SqT.of g1) (SqT.of k1) g2 k2)⟩
      · cases hk
    · rename_i hk
      split at hk <;> cases hk
    · exact q1.elim
end
end Pd

namespace Pd
open PySem PySem.Spec L2 RZ
section
variable {X : Cx} {WW : WX} {a b : Expr} {pos : Pos} {fa fb : EM}
theorem de_call2 {id : String} {x : Str} {p : Pos} {r : List V → Hp → VK → Prop} {g : D → D → Option D} (hc : CallR X (.builtin id) r) (l : Lift2 X (fun x y H Q => r [x, y] H Q) g) (hg : Gl X x) (hm : X.mg x = none) (hv : bootBuiltins x = some (.builtin id)) (ha : DE X WW a fa) (hb : DQ X WW b fb)
    (hn : x ≠ "__name__" := by decide) (hd : (x == ("__debug__" : Str)) = false := by decide) (hs : starEach [a, b] X.env = (false, eval a X.env) :: starEach [b] X.env := by rfl) (hs2 : starEach [b] X.env = (false, eval b X.env) :: starEach [] X.env := by rfl)
    (hpl : (backTo pos (starEach [b] X.env)).any (·.1) = false := by rfl) : DE X WW (.Call (.Name x p) [a, b] [] pos) (eBin g fa fb) :=
  PEw (pe_callB hc hg hm hv (pa_cons ha (pa_cons hb pa_nil hs2) hs) (hn := hn) (hdb := hd) (he := hs) (hpl := hpl)) (bin_w (r := fun x y H Q => r [x, y] H Q) l)
def minD2 : D → D → Option D := intOp fun i j => .int (if j < i then j else i)
def maxD2 : D → D → Option D := intOp fun i j => .int (if j > i then j else i)
theorem l_min2 : Lift2 X (fun x y H Q => ∃ i j, [x, y] = [V.int i, V.int j] ∧ Q (.int (if j < i then j else i)) H) minD2 := lift_I (gv := fun i j => .int (if j < i then j else i)) (fun i j H Q q => ⟨i, j, rfl, q⟩) fun _ _ _ _ i j => .int _
theorem l_max2 : Lift2 X (fun x y H Q => ∃ i j, [x, y] = [V.int i, V.int j] ∧ Q (.int (if j > i then j else i)) H) maxD2 := lift_I (gv := fun i j => .int (if j > i then j else i)) (fun i j H Q q => ⟨i, j, rfl, q⟩) fun _ _ _ _ i j => .int _
theorem de_min2 {x : Str} {p : Pos} (hc : X.calm = true) (hg : Gl X x) (hm : X.mg x = none) (hv : bootBuiltins x = some (.builtin "min")) (ha : DE X WW a fa) (hb : DQ X WW b fb)
    (hn : x ≠ "__name__" := by decide) (hd : (x == ("__debug__" : Str)) = false := by decide) (hs : starEach [a, b] X.env = (false, eval a X.env) :: starEach [b] X.env := by rfl) (hs2 : starEach [b] X.env = (false, eval b X.env) :: starEach [] X.env := by rfl)
    (hpl : (backTo pos (starEach [b] X.env)).any (·.1) = false := by rfl) : DE X WW (.Call (.Name x p) [a, b] [] pos) (eBin minD2 fa fb) := de_call2 (call_min2 hc) l_min2 hg hm hv ha hb hn hd hs hs2 hpl
theorem de_max2 {x : Str} {p : Pos} (hc : X.calm = true) (hg : Gl X x) (hm : X.mg x = none) (hv : bootBuiltins x = some (.builtin "max")) (ha : DE X WW a fa) (hb : DQ X WW b fb)
    (hn : x ≠ "__name__" := by decide) (hd : (x == ("__debug__" : Str)) = false := by decide) (hs : starEach [a, b] X.env = (false, eval a X.env) :: starEach [b] X.env := by rfl) (hs2 : starEach [b] X.env = (false, eval b X.env) :: starEach [] X.env := by rfl)
    (hpl : (backTo pos (starEach [b] X.env)).any (·.1) = false := by rfl) : DE X WW (.Call (.Name x p) [a, b] [] pos) (eBin maxD2 fa fb) := de_call2 (call_max2 hc) l_max2 hg hm hv ha hb hn hd hs hs2 hpl
end
end Pd

namespace Pd
open PySem PySem.Spec L2 RZ
section
variable {X : Cx} {WW : WX} {a b : Expr} {pos : Pos} {fa fb : EM}
def sortI (ns : List Int) : List Int := ns.mergeSort fun a b => decide (a ≤ b)
theorem sortI_perm (ns : List Int) : (sortI ns).Perm ns := List.mergeSort_perm ..
theorem sortI_sorted (ns : List Int) : (sortI ns).Pairwise (· ≤ ·) := by
  have h := List.pairwise_mergeSort (le := fun a b : Int => decide (a ≤ b)) (fun a b c h1 h2 => by simp at h1 h2 ⊢; omega) (fun a b => by simp; omega) ns
  exact h.imp fun h => by simpa using h
theorem sortI_unique {ns ns' : List Int} (h1 : ns'.Perm ns) (h2 : ns'.Pairwise (· ≤ ·)) : ns' = sortI ns :=
  List.Perm.eq_of_pairwise (fun a b _ _ h1 h2 => Int.le_antisymm h1 h2) h2 (sortI_sorted ns) (h1.trans (sortI_perm ns).symm)
def fSortI (fa : EM) : AM := fun e p => (fa e p).bind fun d e p => match d with
  | .lst xs => (match ints? xs with
    | some ns => .ok ((sortI ns).map D.int) e p
    | none => .bad)
  | _ => .bad
theorem reps_mapI {W : Wd} {G : Hp} : ∀ ns : List Int, RepsW W G (ns.map V.int) (ns.map D.int)
  | [] => .nil
  | n :: ns => .cons (.int n) (reps_mapI ns)
theorem df_sortI {x : Str} {p : Pos} (hg : Gl X x) (hm : X.mg x = none) (hv : bootBuiltins x = some (.builtin "sorted")) (ha : DQ X WW a fa)
    (hn : x ≠ "__name__" := by decide) (hd : (x == ("__debug__" : Str)) = false := by decide) (hs : starEach (a :: []) X.env = (false, eval a X.env) :: starEach [] X.env := by rfl) : DF X WW (.Call (.Name x p) [a] [] pos) (fSortI fa) :=
  PEw (pe_callB cr_sortedI hg hm hv (pa_cons ha pa_nil hs) (hn := hn) (hdb := hd) (he := hs)) fun σ H Q q => (qf_w q).imp fun x H1 ⟨w, G, d, e, p, r, hx, q1⟩ => by
    split at q1
    · rename_i xs
      cases hb : ints? xs with
      | none => rw [hb] at q1; exact q1.elim
      | some ns =>
        rw [hb] at q1
        obtain ⟨a, rfl, hl⟩ := ints_of r.sub hx hb
        refine ⟨a, ns, rfl, hl, fun ns' t k1 k2 ht => ?_⟩
        rw [sortI_unique k1 k2]
        exact q1 G t _ H1 (Sub.refl _) r ht (reps_mapI _)
    · exact q1.elim
end
end Pd

namespace Pd
open PySem PySem.Spec L2 RZ
section
variable {X : Cx} {WW : WX} {a b : Expr} {pos : Pos} {fa fb : EM}
def fListRg (fa : EM) : AM := fun e p => (fa e p).bind fun d e p => match d with
  | .int n => if 0 ≤ n ∧ n ≤ 10000000 then .ok (rangeD 0 n.toNat) e p else .bad
  | _ => .bad
theorem reps_rg {W : Wd} {G : Hp} (a : Int) (n : Nat) : RepsW W G ((List.range n).map fun i => V.int (a + (i : Nat))) ((List.range n).map fun (i : Nat) => D.int (a + (i : Int))) := by
  induction List.range n with
  | nil => exact .nil
  | cons i l ih => exact .cons (.int _) ih
theorem df_listRg {x : Str} {p pr posr : Pos} (hcm : X.calm = true) (hg : Gl X "list") (hm : X.mg "list" = none) (hgr : Gl X "range") (hmr : X.mg "range" = none) (ha : DQ X WW a fa)
    (na : starEach [a] X.env = (false, eval a X.env) :: starEach [] X.env := by rfl) (na2 : starEach [.Call (.Name "range" pr) [a] [] posr] X.env = (false, eval (.Call (.Name "range" pr) [a] [] posr) X.env) :: starEach [] X.env := by rfl) :
    DF X WW (.Call (.Name "list" p) [.Call (.Name "range" pr) [a] [] posr] [] pos) (fListRg fa) :=
  PEw (pe_listRg hcm hg hm (prg_1 hgr hmr ha na) na2) fun σ H Q q => (qf_w q).imp fun x H1 ⟨w, G, d, e, p, r, hx, q1⟩ => by
    split at q1
    · rename_i n
      split at q1
      · rename_i h
        obtain rfl := hx.int
        refine ⟨n, rfl, RgOk.of_le (by decide) (by omega) (by decide) h.1, fun t ht => ?_⟩
        have e0 : (n - 0).toNat = n.toNat := by rw [Int.sub_zero]
        unfold rgV
        rw [e0]
        exact q1 G t _ H1 (Sub.refl _) r ht (reps_rg 0 n.toNat)
      · exact q1.elim
    · exact q1.elim
end
end Pd

namespace Pd
open PySem PySem.Spec L2 RZ
def pairsK : List D → Option (List (Key × D))
  | [] => some []
  | .tup [k, d] :: r => (keyD k).bind fun k => (pairsK r).map ((k, d) :: ·)
  | _ => none
def mergeD (gs qs : List (Key × D)) : List (Key × D) := qs.foldl (fun acc q => putKD acc q.1 q.2) gs
def dictD : D → Option D
  | .lst xs => (pairsK xs).map fun qs => .dk (mergeD [] qs)
  | _ => none
section
variable {K : PySem.W.Frag} {mg : Str → Option Value} {pa : Addr} {G : Hp}
theorem pairsK_rep : ∀ {xs : List D} {vs : List V} {qs : List (Key × D)}, Reps K mg pa G vs xs → pairsK xs = some qs →
    ∃ (ps : List Addr) (kvs : List (Key × V)), vs = ps.map V.ref ∧ Paired (fun p kv => G p = some (.tup [kV kv.1, kv.2])) ps kvs ∧ kvs.map (·.1) = qs.map (·.1) ∧ Reps K mg pa G (kvs.map (·.2)) (qs.map (·.2))
  | [], _, _, .nil, h => by cases h; exact ⟨[], [], rfl, .nil, rfl, .nil⟩
  | .tup [k, d] :: r, _, qs, .cons h1 h2, h => by
    unfold pairsK at h
    cases hk : keyD k with
    | none => rw [hk] at h; cases h
    | some k' =>
      rw [hk] at h
      cases hr : pairsK r with
      | none => simp [hr] at h
      | some qr =>
        simp [hr] at h
        subst h
        obtain ⟨ps, kvs, e1, e2, e3, e4⟩ := pairsK_rep h2 hr
        cases h1 with
        | tup ha ra =>
          cases ra with
          | cons r1 r2 =>
            cases r2 with
            | cons r2 r3 =>
              cases r3
              have ek := keyD_rep r1 hk
              subst ek
              rename_i a v
              exact ⟨a :: ps, (k', v) :: kvs, by rw [e1]; rfl, .cons ha e2, by simp [e3], .cons r2 e4⟩
theorem merge_rep : ∀ {kvs : List (Key × V)} {qs : List (Key × D)} {fs : List (Key × V)} {gs : List (Key × D)}, kvs.map (·.1) = qs.map (·.1) → Reps K mg pa G (kvs.map (·.2)) (qs.map (·.2)) → fs.map (·.1) = gs.map (·.1) → Reps K mg pa G (fs.map (·.2)) (gs.map (·.2)) →
    (mergeK fs kvs).map (·.1) = (mergeD gs qs).map (·.1) ∧ Reps K mg pa G ((mergeK fs kvs).map (·.2)) ((mergeD gs qs).map (·.2))
  | [], [], fs, gs, _, _, h1, h2 => ⟨h1, h2⟩
  | (k, v) :: kvs, (k', d) :: qs, fs, gs, e, r, h1, h2 => by
    simp only [List.map_cons, List.cons.injEq] at e
    obtain ⟨rfl, e⟩ := e
    cases r with
    | cons r1 r2 =>
      obtain ⟨p1, p2⟩ := putK_rep (k := k) r1 h1 h2
      exact merge_rep (fs := putK fs k v) (gs := putKD gs k d) e r2 p1 p2
  | [], _ :: _, _, _, e, _, _, _ => by simp at e
  | _ :: _, [], _, _, e, _, _, _ => by simp at e
end
section
variable {X : Cx} {WW : WX} {a b : Expr} {pos : Pos} {fa fb : EM}
theorem l_dict : LiftC X (fun xs H Q => ∃ (a : Addr) (ps : List Addr) (kvs : List (Key × V)), xs = [.ref a] ∧ SqL X.K H a (ps.map V.ref) ∧ Paired (fun p kv => SqT X.K H p [kV kv.1, kv.2]) ps kvs ∧
    ∀ p, H p = none → Q (.ref p) (upd H p (.dK (mergeK [] kvs)))) dictD := by
  intro w G H x dx dz Q s hx hz q
  unfold dictD at hz
  split at hz
  · rename_i xs
    cases hp : pairsK xs with
    | none => rw [hp] at hz; cases hz
    | some qs =>
      rw [hp] at hz
      cases hz
      obtain ⟨a, vs, rfl, h1, h2⟩ := hx.lst s
      obtain ⟨ps, kvs, rfl, e2, e3, e4⟩ := pairsK_rep h2 hp
      refine ⟨a, ps, kvs, rfl, SqL.of h1, ?_, fun t ht => ?_⟩
      · clear e3 e4 h1 h2
        induction e2 with
        | nil => exact .nil
        | cons h1 h2 ih => exact .cons (SqT.of (s _ _ h1)) ih
      · obtain ⟨m1, m2⟩ := merge_rep (fs := []) (gs := []) e3 e4 rfl .nil
        exact q _ _ _ (alN ht) (.dk upd_same m1 (m2.mono (Sub.new (s.fresh ht))))
  · cases hz
theorem de_dictP {x : Str} {p : Pos} (hcm : X.calm = true) (hg : Gl X x) (hm : X.mg x = none) (hv : bootBuiltins x = some (.type "dict")) (ha : DQ X WW a fa)
    (hn : x ≠ "__name__" := by decide) (hd : (x == ("__debug__" : Str)) = false := by decide) (hs : starEach (a :: []) X.env = (false, eval a X.env) :: starEach [] X.env := by rfl) : DE X WW (.Call (.Name x p) [a] [] pos) (eUn dictD fa) :=
  de_callTy (call_dictP hcm) l_dict hg hm hv ha hn hd hs
end
end Pd

namespace Pd
open PySem PySem.Spec L2 RZ
theorem boot_sorted : bootBuiltins "sorted" = some (.builtin "sorted") := by decide +kernel
theorem boot_dict : bootBuiltins "dict" = some (.type "dict") := by decide +kernel
theorem code_inj {B : Int} : ∀ {n m : List Int}, n.length = m.length → TS.Bd B n → TS.Bd B m → TS.code B n = TS.code B m → n = m
  | [], [], _, _, _, _ => rfl
  | a :: n, b :: m, hl, hn, hm, h => by
    have hl' : n.length = m.length := by simpa using hl
    have bn : TS.Bd B n := fun x hx => hn x (by simp [hx])
    have bm : TS.Bd B m := fun x hx => hm x (by simp [hx])
    rcases Int.lt_trichotomy a b with q | q | q
    · have := TS.code_lt hl' bn bm q
      omega
    · subst q
      have e : TS.code B n = TS.code B m := by
        rcases Int.lt_trichotomy (TS.code B n) (TS.code B m) with z | z | z
        · have := (TS.code_same (B := B) (d := a) hl').mpr z
          omega
        · exact z
        · have := (TS.code_same (B := B) (d := a) hl'.symm).mpr z
          omega
      rw [code_inj hl' bn bm e]
    · have := TS.code_lt hl'.symm bm bn q
      omega
def rowI : List Int → D := fun ns => .tup (ns.map D.int)
def rows? : List D → Option (List (List Int))
  | [] => some []
  | .tup xs :: r => (ints? xs).bind fun ns => (rows? r).map (ns :: ·)
  | _ => none
theorem rows?_is : ∀ {ds : List D} {ns : List (List Int)}, rows? ds = some ns → ds = ns.map rowI
  | [], _, h => by cases h; rfl
  | .tup xs :: r, ns, h => by
    unfold rows? at h
    cases hx : ints? xs with
    | none => rw [hx] at h; cases h
    | some n =>
      rw [hx] at h
      cases hr : rows? r with
      | none => simp [hr] at h
      | some m =>
        simp [hr] at h
        subst h
        rw [ints?_is hx, rows?_is hr]
        rfl
def sortT (B : Int) (ns : List (List Int)) : List (List Int) := ns.mergeSort fun a b => decide (TS.code B a ≤ TS.code B b)
theorem sortT_perm (B : Int) (ns : List (List Int)) : (sortT B ns).Perm ns := List.mergeSort_perm ..
theorem sortT_sorted (B : Int) (ns : List (List Int)) : (sortT B ns).Pairwise fun a b => TS.code B a ≤ TS.code B b := by
  have h := List.pairwise_mergeSort (le := fun a b : List Int => decide (TS.code B a ≤ TS.code B b)) (fun a b c h1 h2 => by simp at h1 h2 ⊢; omega) (fun a b => by simp; omega) ns
  exact h.imp fun h => by simpa using h
theorem sortT_unique {B : Int} {d : Nat} {ns ns' : List (List Int)} (hd : ∀ n ∈ ns, n.length = d ∧ TS.Bd B n) (h1 : ns'.Perm ns) (h2 : ns'.Pairwise fun a b => TS.code B a ≤ TS.code B b) : ns' = sortT B ns := by
  refine List.Perm.eq_of_pairwise (fun a b ha hb h1' h2' => ?_) h2 (sortT_sorted B ns) (h1.trans (sortT_perm B ns).symm)
  have a1 := hd a (h1.mem_iff.mp ha)
  have b1 := hd b ((sortT_perm B ns).mem_iff.mp hb)
  exact code_inj (a1.1.trans b1.1.symm) a1.2 b1.2 (Int.le_antisymm h1' h2')
theorem reps_perm {W : Wd} {G : Hp} {vs vs' : List V} (p : vs'.Perm vs) : ∀ {ns : List (List Int)}, RepsW W G vs (ns.map rowI) → ∃ ns' : List (List Int), ns'.Perm ns ∧ RepsW W G vs' (ns'.map rowI) := by
  induction p with
  | nil => exact fun r => ⟨_, .refl _, r⟩
  | cons x h ih =>
    intro ns r
    cases ns with
    | nil => cases r
    | cons n ns =>
      cases r with
      | cons r1 r2 =>
        obtain ⟨ns', p', r'⟩ := ih r2
        exact ⟨n :: ns', p'.cons n, .cons r1 r'⟩
  | swap x y l =>
    intro ns r
    cases ns with
    | nil => cases r
    | cons n ns =>
      cases ns with
      | nil => cases r with | cons _ r => cases r
      | cons m ns =>
        cases r with
        | cons r1 r2 =>
          cases r2 with
          | cons r2 r3 => exact ⟨m :: n :: ns, .swap .., .cons r2 (.cons r1 r3)⟩
  | trans h1 h2 ih1 ih2 =>
    intro ns r
    obtain ⟨ns1, p1, r1⟩ := ih2 r
    obtain ⟨ns2, p2, r2⟩ := ih1 r1
    exact ⟨ns2, p2.trans p1, r2⟩
section
variable {X : Cx} {WW : WX} {a b : Expr} {pos : Pos} {fa fb : EM}
instance (B : Int) (ns : List Int) : Decidable (TS.Bd B ns) := inferInstanceAs (Decidable (∀ m, m ∈ ns → 0 ≤ m ∧ m < B))
def okT (d : Nat) (B : Int) (ns : List (List Int)) : Prop := ns.length < 64 ∧ ∀ n ∈ ns, n.length = d ∧ TS.Bd B n
instance (d : Nat) (B : Int) (ns : List (List Int)) : Decidable (okT d B ns) := inferInstanceAs (Decidable (_ ∧ _))
def fSortT (d : Nat) (B : Int) (fa : EM) : AM := fun e p => (fa e p).bind fun x e p => match x with
  | .lst xs => (match rows? xs with
    | some ns => if okT d B ns then .ok ((sortT B ns).map rowI) e p else .bad
    | none => .bad)
  | _ => .bad
theorem repRow {W : Wd} {G : Hp} {v : V} {n : List Int} (h : RepW W G v (rowI n)) : ∃ t, v = .ref t ∧ G t = some (.tup (n.map V.int)) := by
  cases h with
  | tup ha ra =>
    rw [reps_ints ra] at ha
    exact ⟨_, rfl, ha⟩
theorem df_sortT {x : Str} {p : Pos} (d : Nat) (B : Int) (hd1 : 1 ≤ d) (hg : Gl X x) (hm : X.mg x = none) (hv : bootBuiltins x = some (.builtin "sorted")) (ha : DQ X WW a fa)
    (hn : x ≠ "__name__" := by decide) (hd : (x == ("__debug__" : Str)) = false := by decide) (hs : starEach (a :: []) X.env = (false, eval a X.env) :: starEach [] X.env := by rfl) : DF X WW (.Call (.Name x p) [a] [] pos) (fSortT d B fa) :=
  PEw (pe_callB (cr_sortT (d := d) (B := B) hd1) hg hm hv (pa_cons ha pa_nil hs) (hn := hn) (hdb := hd) (he := hs)) fun σ H Q q => (qf_w q).imp fun x H1 ⟨w, G, dd, e, p, r, hx, q1⟩ => by
    split at q1
    · rename_i xs
      cases hb : rows? xs with
      | none => rw [hb] at q1; exact q1.elim
      | some ns =>
        rw [hb] at q1
        dsimp only at q1
        split at q1
        · rename_i hok
          obtain ⟨a, vs, rfl, h1, h2⟩ := hx.lst r.sub
          rw [rows?_is hb] at h2
          have hlen : vs.length = ns.length := by rw [h2.length, List.length_map]
          have row : ∀ {us : List V} {ms : List (List Int)}, RepsW (wd X w) G us (ms.map rowI) → ∀ u ∈ us, ∃ n ∈ ms, RepW (wd X w) G u (rowI n) := by
            intro us ms
            induction ms generalizing us with
            | nil => intro h; cases h; exact fun u hu => nomatch hu
            | cons m ms ih =>
              intro h
              cases h with
              | cons k1 k2 =>
                intro u hu
                rcases List.mem_cons.mp hu with rfl | hu
                · exact ⟨m, by simp, k1⟩
                · obtain ⟨n, hn, hr⟩ := ih k2 u hu
                  exact ⟨n, by simp [hn], hr⟩
          have row2 : ∀ {us : List V} {ms : List (List Int)}, RepsW (wd X w) G us (ms.map rowI) → ∀ n ∈ ms, ∃ u ∈ us, RepW (wd X w) G u (rowI n) := by
            intro us ms
            induction ms generalizing us with
            | nil => exact fun _ n hn => nomatch hn
            | cons m ms ih =>
              intro h
              cases h with
              | cons k1 k2 =>
                intro n hn
                rcases List.mem_cons.mp hn with rfl | hn
                · exact ⟨_, by simp, k1⟩
                · obtain ⟨u, hu, hr⟩ := ih k2 n hn
                  exact ⟨u, by simp [hu], hr⟩
          refine ⟨a, vs, rfl, SqL.of h1, by rw [hlen]; exact hok.1, fun u hu => ?_, fun ys t hp hsrt ht => ?_⟩
          · obtain ⟨n, hn, hr⟩ := row h2 u hu
            obtain ⟨t, rfl, ht⟩ := repRow hr
            exact ⟨n, ⟨t, rfl, SqT.of (r.sub _ _ ht)⟩, (hok.2 n hn).1, (hok.2 n hn).2⟩
          · obtain ⟨ns', p1, r1⟩ := reps_perm hp h2
            have srt : ns'.Pairwise fun a b => TS.code B a ≤ TS.code B b := by
              clear hp p1
              induction ns' generalizing ys with
              | nil => exact .nil
              | cons m ms ih =>
                cases r1 with
                | cons k1 k2 =>
                  rw [List.pairwise_cons] at hsrt
                  refine List.pairwise_cons.mpr ⟨fun n hn => ?_, ih _ hsrt.2 k2⟩
                  obtain ⟨u, hu, hr⟩ := row2 k2 n hn
                  obtain ⟨t1, e1, g1⟩ := repRow k1
                  obtain ⟨t2, e2, g2⟩ := repRow hr
                  exact hsrt.1 u hu m n ⟨t1, e1, SqT.of (r.sub _ _ g1)⟩ ⟨t2, e2, SqT.of (r.sub _ _ g2)⟩
            rw [sortT_unique hok.2 p1 srt] at r1
            exact q1 G t _ H1 (Sub.refl _) r ht r1
        · exact q1.elim
    · exact q1.elim
end
end Pd

namespace Pd
open PySem PySem.Spec PyProof.Rows L2
def clsStmt (s : Stmt) (j : Nat) : Stmt := match s with
  | .ClassDef _ _ _ b _ _ _ _ _ _ _ => b.getD j (.Pass ⟨0, 0, 0, 0⟩)
  | _ => .Pass ⟨0, 0, 0, 0⟩
structure MethAt (K : PySem.W.Frag) (mg : Str → Option Value) (c m q : Str) (st : Stmt) (dl : List D) : Prop where
  ex : ∃ C f fd, mg c = some (.ref C) ∧ PySem.W.findIn K (.ref C) m = some (some (.ref f)) ∧ PySem.W.isFn K (.ref f) = true ∧ FunD K m q (defArgs st) (defBody st) (defScope st) (dl.map scal) [] f fd
section
variable {K : PySem.W.Frag} {mg : Str → Option Value} {h : Heap} {c m q : Str} {st : Stmt}
theorem methAt0 {C f : Addr} {oc kV doc pm cdv ct : Value} {od an : Option Addr} {sl : Array (Option Value)} (X : K.In h) (G : h.Ns mainGlobals mg) (a : PySem.W.nsIn K mainGlobals c = some (some (.ref C))) (fI : PySem.W.findIn K (.ref C) m = some (some (.ref f)))
    (iF : PySem.W.isFn K (.ref f) = true) (l : K.lookup f = some ⟨oc, od, .func (PySem.W.fnOf m q (defArgs st) (defBody st) (defScope st) .none kV doc pm an cdv ct), sl⟩) (c1 : PySem.W.codeIn K cdv q = true) (k : PySem.W.keepIn K (.ref f) = true) : MethAt K mg c m q st [] :=
  ⟨C, f, _, PySem.W.mg_of X G a, fI, iF, ⟨oc, od, .none, kV, doc, pm, an, cdv, ct, sl, rfl, l, c1, .inl ⟨rfl, rfl⟩, .inl rfl⟩, k⟩
theorem methAt1 {C f T : Addr} {oc kV doc pm cdv ct : Value} {od an : Option Addr} {sl : Array (Option Value)} {oT : Value} {odT : Option Addr} {nT : Nat} {slT : Array (Option Value)} {d : D} {dv : Value} (X : K.In h) (G : h.Ns mainGlobals mg) (a : PySem.W.nsIn K mainGlobals c = some (some (.ref C))) (fI : PySem.W.findIn K (.ref C) m = some (some (.ref f)))
    (iF : PySem.W.isFn K (.ref f) = true) (l : K.lookup f = some ⟨oc, od, .func (PySem.W.fnOf m q (defArgs st) (defBody st) (defScope st) (.ref T) kV doc pm an cdv ct), sl⟩) (c1 : PySem.W.codeIn K cdv q = true) (k : PySem.W.keepIn K (.ref f) = true) (t : K.lookup T = some ⟨oT, odT, .seq #[dv] nT, slT⟩) (r : RelV (scal d) dv) : MethAt K mg c m q st [d] :=
  ⟨C, f, _, PySem.W.mg_of X G a, fI, iF, ⟨oc, od, .ref T, kV, doc, pm, an, cdv, ct, sl, rfl, l, c1, .inr ⟨by simp, T, _, [dv], nT, rfl, t, rfl, .cons r .nil⟩, .inl rfl⟩, k⟩
structure MkAt (K : PySem.W.Frag) (mg : Str → Option Value) (c : Str) : Prop where
  ex : ∃ C, mg c = some (.ref C) ∧ PySem.W.makesIn K C = true ∧ PySem.W.keepIn K (.ref C) = true
theorem mkAt {C : Addr} (X : K.In h) (G : h.Ns mainGlobals mg) (a : PySem.W.nsIn K mainGlobals c = some (some (.ref C))) (m : PySem.W.makesIn K C = true) (k : PySem.W.keepIn K (.ref C) = true) : MkAt K mg c := ⟨C, PySem.W.mg_of X G a, m, k⟩
structure EqAt (K : PySem.W.Frag) (mg : Str → Option Value) (c : Str) : Prop where
  ex : ∃ C, mg c = some (.ref C) ∧ PySem.W.findIn K (.ref C) "__ne__" = some (some (.builtin "object.__ne__")) ∧ PySem.W.mroIn K C (.type "object") = some true
theorem eqAt {C : Addr} (X : K.In h) (G : h.Ns mainGlobals mg) (a : PySem.W.nsIn K mainGlobals c = some (some (.ref C))) (n : PySem.W.findIn K (.ref C) "__ne__" = some (some (.builtin "object.__ne__"))) (o : PySem.W.mroIn K C (.type "object") = some true) : EqAt K mg c := ⟨C, PySem.W.mg_of X G a, n, o⟩
theorem mkZ_of {C : Addr} (X : K.In h) (G : h.Ns mainGlobals mg) (a : PySem.W.nsIn K mainGlobals c = some (some (.ref C))) (m : PySem.W.makesIn K C = true) (i : PySem.W.findIn K (.ref C) "__init__" = some (some (.builtin "object.__init__"))) (k : PySem.W.keepIn K (.ref C) = true) (o : PySem.W.mroIn K C (.type "object") = some true) : MkZ K mg c :=
  ⟨C, PySem.W.mg_of X G a, m, i, k, o⟩
def AllP {α : Type} (P : α → Prop) : List α → Prop
  | [] => True
  | a :: r => P a ∧ AllP P r
theorem AllP.mem {α : Type} {P : α → Prop} : ∀ {l : List α} {a : α}, AllP P l → a ∈ l → P a
  | _ :: _, _, h, .head _ => h.1
  | _ :: _, _, h, .tail _ m => AllP.mem h.2 m
structure ClF (K : PySem.W.Frag) (c : Str) (fs : List Str) (C : Addr) : Prop where
  a : PySem.W.nsIn K mainGlobals c = some (some (.ref C))
  pg : PySem.W.plainGet K C Str.empty = true
  hd : PySem.W.hasDictIn K C = true
  po : PySem.W.plainOver K C = true
  sa : PySem.W.findIn K (.ref C) "__setattr__" = some (some (.builtin "object.__setattr__"))
  no : AllP (fun f => PySem.W.findIn K (.ref C) f = some none) fs
  ha : PySem.W.findIn K (.ref C) "__class__" = some (some (.builtin "object.__class__"))
  hm : PySem.W.mroIn K C (.type "object") = some true
  ty : AllP (fun T => PySem.W.kitOne K (.type T) (.ref C) = some false ∧ PySem.W.notFirst K C (.type T) = true) tyNs
abbrev Cl3 := Str × List Str × Addr
theorem cts_of {as : List Cl3} {cs : Cs} (X : K.In h) (G : h.Ns mainGlobals mg) (e : cs = as.map fun q => (q.1, q.2.1)) (H : AllP (fun q : Cl3 => ClF K q.1 q.2.1 q.2.2) as)
    (H2 : AllP (fun q : Cl3 => AllP (fun q' : Cl3 => PySem.W.kitOne K (.ref q.2.2) (.ref q'.2.2) = some (q.1 == q'.1) ∧ PySem.W.notFirst K q'.2.2 (.ref q.2.2) = true) as) as)
    (hn : PySem.W.specialIn K (.builtin "object.__class__") "__get__" = some (some (.builtin "getset_descriptor.__get__"))) (ht : PySem.W.takesIn K (.builtin "object.__class__") = some true) : CTs K mg cs := by
  subst e
  refine ⟨fun q hq => ?_, hn, ht, fun q hq q' hq' A B hA hB => ?_, fun q hq B hB T hT => ?_⟩
  · obtain ⟨r, hr, rfl⟩ := List.mem_map.mp hq
    have z := H.mem hr
    exact ⟨r.2.2, PySem.W.mg_of X G z.a, ⟨z.pg, z.hd, z.po, z.sa⟩, fun f hf => z.no.mem hf, z.ha, z.hm⟩
  · obtain ⟨r, hr, rfl⟩ := List.mem_map.mp hq
    obtain ⟨r', hr', rfl⟩ := List.mem_map.mp hq'
    have e1 := (PySem.W.mg_of X G (H.mem hr).a).symm.trans hA
    have e2 := (PySem.W.mg_of X G (H.mem hr').a).symm.trans hB
    cases e1
    cases e2
    exact (H2.mem hr).mem hr'
  · obtain ⟨r, hr, rfl⟩ := List.mem_map.mp hq
    have e1 := (PySem.W.mg_of X G (H.mem hr).a).symm.trans hB
    cases e1
    exact (H.mem hr).ty.mem hT
end
section
variable {P : Program} {w : World} {K : PySem.W.Frag} {mg : Str → Option Value} {base : Heap} {c q : Str} {st : Stmt} {k : Nat}
theorem eqM_of {F : Fn} {ps : List Str} (E : EqAt K mg c) (M : MethAt K mg c "__eq__" q st []) (hps : ps.length = 2) (hF : ∀ f fd, FunD K "__eq__" q (defArgs st) (defBody st) (defScope st) [] [] f fd → FnOk P w K mg base (L2.CX P w) k f fd ps (spF K mg 2 F) ∧ Binds K fd ps []) : EqM P w K mg base k c F := by
  obtain ⟨C, hm, hn, ho⟩ := E.ex
  obtain ⟨C', f, fd, hm', h1, h2, h3⟩ := M.ex
  rw [hm] at hm'
  cases hm'
  obtain ⟨z1, z2⟩ := hF f fd h3
  exact ⟨C, f, fd, ps, hm, h1, h2, hn, ho, hps, z1, z2⟩
theorem mkO_of {I : Ini} {ps : List Str} {n : Nat} {dl : List D} (E : MkAt K mg c) (M : MethAt K mg c "__init__" q st dl) (sc : dl.all isSc = true) (hF : ∀ f fd, FunD K "__init__" q (defArgs st) (defBody st) (defScope st) (dl.map scal) [] f fd → FnOk P w K mg base (L2.CX P w) k f fd ps (spI K mg n c I) ∧ ∀ j, j ≤ dl.length → ∃ ds, Vals ((dl.drop j).map scal) ds ∧ Binds K fd ps ds) : MkO P w K mg base k c n I dl := by
  obtain ⟨C, hm, hn, ho⟩ := E.ex
  obtain ⟨C', f, fd, hm', h1, h2, h3⟩ := M.ex
  rw [hm] at hm'
  cases hm'
  obtain ⟨z1, z2⟩ := hF f fd h3
  exact ⟨sc, C, f, fd, ps, hm, ⟨hn, h1, h2, ho⟩, z1, z2⟩
end
end Pd

namespace PdSet
open PySem PySem.Spec PyProof.Rows L2
section
variable {P : Program} {w : World} {K : Type} [DecidableEq K] {knd : KeyKind P w K}
structure Ent (knd : KeyKind P w K) (e : Int × Value) (k : K) : Prop where
  is : knd.is k e.2 = true
  hash : e.1 = knd.hash k
  scan : e.2.scannable = true
structure Pay (knd : KeyKind P w K) (es : Array (Int × Value)) (t : SetTable) (ks : List K) : Prop where
  each : ∀ e ∈ es.toList, ∃ k ∈ ks, Ent knd e k
  every : ∀ k ∈ ks, ∃ e ∈ es.toList, Ent knd e k
  size : es.size = ks.length
  apart : ks.Nodup
  few : ks.length < scanBound
  fit : t.fits es.size = true
  ris : Ris t.place.toList
  led : w.params.followText "set-order" = true ∨ t.led = true
def SetW (knd : KeyKind P w K) (h : Heap) (a : Addr) (ks : List K) : Prop := ∃ o es ep t, h.get? a = some o ∧ o.ExactSet ∧ o.data = .set es ep t ∧ Pay knd es t ks
theorem SetW.keep {h h' : Heap} {a : Addr} {ks : List K} (R : SetW knd h a ks) (k : ∀ o, h.get? a = some o → h'.get? a = some o) : SetW knd h' a ks :=
  let ⟨o, es, ep, t, h1, h2⟩ := R
  ⟨o, es, ep, t, k o h1, h2⟩
theorem Pay.elems {es : Array (Int × Value)} {t : SetTable} {ks : List K} (p : Pay knd es t ks) : ElemsOf knd es.toList := fun e he =>
  let ⟨k, _, q⟩ := p.each e he
  ⟨⟨k, q.is, q.hash⟩, q.scan⟩
theorem Pay.perm {es es' : Array (Int × Value)} {t t' : SetTable} {ks : List K} (p : Pay knd es t ks) (q : es'.toList.Perm es.toList) (f : t'.fits es'.size = true) (r : Ris t'.place.toList) (l : t'.led = t.led) : Pay knd es' t' ks where
  each := fun e he => p.each e (q.mem_iff.mp he)
  every := fun k hk => let ⟨e, he, z⟩ := p.every k hk; ⟨e, q.mem_iff.mpr he, z⟩
  size := by rw [← p.size, ← Array.length_toList, ← Array.length_toList, q.length_eq]
  apart := p.apart
  few := p.few
  fit := f
  ris := r
  led := p.led.imp id fun z => l.trans z
theorem Pay.more {es es' : Array (Int × Value)} {t t' : SetTable} {ks : List K} {k : K} {x : Value} (p : Pay knd es t ks) (hk : knd.is k x = true) (hx : x.scannable = true) (hn : k ∉ ks) (room : ks.length + 1 < scanBound)
    (q : es'.toList.Perm (es.push (knd.hash k, x)).toList) (f : t'.fits es'.size = true) (r : Ris t'.place.toList) (l : t'.led = t.led) : Pay knd es' t' (k :: ks) := by
  have mem : ∀ e, e ∈ es'.toList ↔ e ∈ es.toList ∨ e = (knd.hash k, x) := fun e => by rw [q.mem_iff]; simp
  refine ⟨fun e he => ?_, fun j hj => ?_, ?_, List.nodup_cons.mpr ⟨hn, p.apart⟩, room, f, r, p.led.imp id fun z => l.trans z⟩
  · rcases (mem e).mp he with he | rfl
    · obtain ⟨j, hj, z⟩ := p.each e he
      exact ⟨j, List.mem_cons_of_mem _ hj, z⟩
    · exact ⟨k, by simp, ⟨hk, rfl, hx⟩⟩
  · rcases List.mem_cons.mp hj with rfl | hj
    · exact ⟨_, (mem _).mpr (.inr rfl), ⟨hk, rfl, hx⟩⟩
    · obtain ⟨e, he, z⟩ := p.every j hj
      exact ⟨e, (mem e).mpr (.inl he), z⟩
  · have z := q.length_eq
    simp only [Array.toList_push, List.length_append, List.length_singleton, Array.length_toList] at z
    rw [List.length_cons, z, p.size]
end
section
variable {P : Program} {w : World} {K : Type} [DecidableEq K] {knd : KeyKind P w K} {A : Around} {E : Value → Shared → Prop} {s : Shared} {a : Addr}
theorem put_get {o : Obj} {es es' : Array (Int × Value)} {ep : Nat} {t t' : SetTable} (ho : s.heap.get? a = some o) (hd : o.data = .set es ep t) : (s.heap.update a (Obj.putSet es' t')).get? a = some { o with data := .set es' (ep + 1) t' } := by
  rw [← putSet_of es' t' hd]
  exact Heap.get?_update_self _ ho (by rw [putSet_of es' t' hd]; rfl)
theorem store_ok {o : Obj} {es es' : Array (Int × Value)} {ep : Nat} {t t' : SetTable} {ks : List K} {Q : Unit → Shared → Prop} (ho : s.heap.get? a = some o) (hx : o.ExactSet) (hd : o.data = .set es ep t) (p : Pay knd es' t' ks)
    (h : ∀ h' o', Heap.SameBut a s.heap h' → h'.get? a = some o' → o'.ExactSet → (∃ n, o'.data = .set es' n t') → Q () { s with heap := h' }) : wpAny (model P w) A (storeSet a es' t') Q E s :=
  wpAny_storeSet_of ho hd (h _ _ (Heap.SameBut.update s.heap a _) (put_get ho hd) hx ⟨_, rfl⟩) (fits_of_scanBound (by rw [p.size]; exact p.few))
theorem add_walk {ks : List K} {k : K} {x : Value} {Q : Bool → Shared → Prop} (hk : knd.is k x = true) (hx : x.scannable = true) (R : SetW knd s.heap a ks) (room : ks.length + 1 < scanBound)
    (hQ : ∀ (h' : Heap) (b : Bool), Heap.SameBut a s.heap h' → SetW knd h' a (if k ∈ ks then ks else k :: ks) → Q b { s with heap := h' }) : wpAny (model P w) A (setAddHashed a x (knd.hash k)) Q E s := by
  obtain ⟨o, es, ep, t, ho, hox, hd, p⟩ := R
  have small : es.size < scanBound := by rw [p.size]; exact p.few
  unfold setAddHashed setAddHashedIn setAddByScan
  apply wpAny_holding
  apply wpAny_bind
  apply wpAny_setState_of ho hd p.fit
  simp only [byScan_of hx small p.elems, if_true]
  apply wpAny_bind
  apply wpAny_bind
  apply wpAny_rule
  apply wpAny_bind
  apply wpAny_setScan_of hk ho hd p.fit p.elems
  cases hi : es.toList.findIdx? (fun e => knd.is k e.2) with
  | some j =>
    obtain ⟨hj, hz, _⟩ := List.findIdx?_eq_some_iff_getElem.mp hi
    have hin : k ∈ ks := by
      obtain ⟨k', hk', z⟩ := p.each _ (List.getElem_mem hj)
      rw [knd.inj _ _ _ hz z.is]
      exact hk'
    have := hQ s.heap false (Heap.SameBut.refl a s.heap) ⟨o, es, ep, t, ho, hox, hd, by rw [if_pos hin]; exact p⟩
    exact wpAny_pure (wpAny_pure this)
  | none =>
    have hout : k ∉ ks := fun z => by
      obtain ⟨e, he, q⟩ := p.every k z
      have := List.findIdx?_eq_none_iff.mp hi e he
      rw [q.is] at this
      cases this
    rw [if_neg hout] at hQ
    have p1 := p.more hk hx hout room (layNew_perm t es (knd.hash k) x) (layNew_fits t es (knd.hash k) x) (layNew_ris t es (knd.hash k) x p.ris) (layNew_led t es (knd.hash k) x)
    revert p1
    generalize layNew t es (knd.hash k) x = L
    obtain ⟨es1, t1, dm, gv⟩ := L
    intro p1
    have tail : ∀ (g : Bool → Sem Unit), (∀ (b : Bool) (s' : Shared) (Q' : Unit → Shared → Prop), Q' () s' → wpAny (model P w) A (g b) Q' E s') → ∀ (F : Option Bool → Shared → Prop), (∀ s', Q true s' → F (some true) s') → ∀ t2 : SetTable, Pay knd es1 t2 (k :: ks) → wpAny (model P w) A (do
        storeSet a es1 t2
        if (!dm && t2.tooFull) = true then do
          g (relayAll t2 es1 (SetTable.grown es1.size)).2.2
          storeSet a (relayAll t2 es1 (SetTable.grown es1.size)).1 (relayAll t2 es1 (SetTable.grown es1.size)).2.1
          pure (some true)
        else pure (some true)) F E s := fun g hg F hF t2 p2 => by
      apply wpAny_bind
      refine store_ok (knd := knd) ho hox hd p2 fun h1 o1 b1 g1 x1 ⟨n1, d1⟩ => ?_
      split
      · apply wpAny_bind
        apply hg
        apply wpAny_bind
        have p3 := p2.perm (relayAll_perm t2 es1 (SetTable.grown es1.size)) (relayAll_fits t2 es1 (SetTable.grown es1.size)) (relayAll_ris t2 es1 (SetTable.grown es1.size)) (relayAll_led t2 es1 (SetTable.grown es1.size))
        exact store_ok (s := { s with heap := h1 }) (Q := fun _ s' => wpAny (model P w) A (pure (some true)) F E s') (knd := knd) g1 x1 d1 p3 fun h2 o2 b2 g2 x2 ⟨n2, d2⟩ => wpAny_pure (hF _ (hQ h2 true (b1.trans b2) ⟨o2, _, n2, _, g2, x2, d2, p3⟩))
      · exact wpAny_pure (hF _ (hQ h1 true b1 ⟨o1, _, n1, _, g1, x1, d1, p2⟩))
    have p2 : Pay knd es1 { t1 with plain := false } (k :: ks) := p1.perm (.refl _) (SetTable.fits_plain_off p1.fit) p1.ris rfl
    dsimp only
    apply wpAny_bind
    have go : ∀ t2 : SetTable, Pay knd es1 t2 (k :: ks) → ∀ s', Q true s' → wpAny (model P w) A (pure true) Q E s' := fun _ _ _ z => wpAny_pure z
    have rest := fun g hg => tail g hg (fun r s' => wpAny (model P w) A (match r with | some b => pure b | none => setAddHashedIn a x (knd.hash k) 99999) Q E s') (fun s' z => wpAny_pure z)
    cases gv <;> (first | apply wpAny_pure | apply wpAny_rule) <;> split <;> apply wpAny_bind <;> (first | rw [hashByValue_scannable 8 hx] | skip) <;> apply wpAny_pure <;>
      first
      | exact rest _ (fun b s' Q' z => by cases b <;> first | exact wpAny_pure z | exact wpAny_rule z) _ p1
      | (split <;> first
          | exact rest _ (fun b s' Q' z => by cases b <;> first | exact wpAny_pure z | exact wpAny_rule z) _ p1
          | exact rest _ (fun b s' Q' z => by cases b <;> first | exact wpAny_pure z | exact wpAny_rule z) _ p2)
end
end PdSet

namespace PdSet
open PySem PySem.Spec PyProof.Rows L2
section
variable {K : Type} [DecidableEq K]
def metL (ks : List K) : List K := ks.foldl (fun acc k => if k ∈ acc then acc else k :: acc) []
theorem metL_snoc (ks : List K) (k : K) : metL (ks ++ [k]) = if k ∈ metL ks then metL ks else k :: metL ks := by
  unfold metL
  rw [List.foldl_append]
  rfl
theorem metL_mem (k : K) : ∀ ks : List K, k ∈ metL ks ↔ k ∈ ks := by
  have go : ∀ (ks acc : List K), k ∈ ks.foldl (fun acc k => if k ∈ acc then acc else k :: acc) acc ↔ k ∈ acc ∨ k ∈ ks := by
    intro ks
    induction ks with
    | nil => intro acc; simp
    | cons x ks ih =>
      intro acc
      rw [List.foldl_cons, ih]
      by_cases z : x ∈ acc
      · rw [if_pos z, List.mem_cons]
        constructor
        · rintro (q | q)
          · exact .inl q
          · exact .inr (.inr q)
        · rintro (q | rfl | q)
          · exact .inl q
          · exact .inl z
          · exact .inr q
      · rw [if_neg z, List.mem_cons, List.mem_cons]
        constructor
        · rintro ((rfl | q) | q)
          · exact .inr (.inl rfl)
          · exact .inl q
          · exact .inr (.inr q)
        · rintro (q | rfl | q)
          · exact .inl (.inr q)
          · exact .inl (.inl rfl)
          · exact .inr q
  intro ks
  unfold metL
  rw [go]
  simp
theorem metL_nodup : ∀ ks : List K, (metL ks).Nodup := by
  have go : ∀ (ks acc : List K), acc.Nodup → (ks.foldl (fun acc k => if k ∈ acc then acc else k :: acc) acc).Nodup := by
    intro ks
    induction ks with
    | nil => intro acc h; exact h
    | cons x ks ih =>
      intro acc h
      rw [List.foldl_cons]
      apply ih
      split
      · exact h
      · rename_i z
        exact List.nodup_cons.mpr ⟨z, h⟩
  exact fun ks => go ks [] List.nodup_nil
theorem metL_len (ks : List K) : (metL ks).length ≤ ks.length := by
  have go : ∀ (ks acc : List K), (ks.foldl (fun acc k => if k ∈ acc then acc else k :: acc) acc).length ≤ acc.length + ks.length := by
    intro ks
    induction ks with
    | nil => intro acc; simp
    | cons x ks ih =>
      intro acc
      rw [List.foldl_cons]
      refine Nat.le_trans (ih _) ?_
      split
      · simp only [List.length_cons]; omega
      · simp only [List.length_cons]; omega
  have q := go ks []
  rw [List.length_nil, Nat.zero_add] at q
  exact q
end
section
variable {P : Program} {w : World} {K : Type} [DecidableEq K] {knd : KeyKind P w K} {A : Around} {I : Addr} {fp wr : List Addr} {G : Array GenState → Array GenState → Prop} {n : Nat} {Pv : Nat → Value → Prop} {St : Nat → Shared → Prop} {R : Result → Shared → Prop}
theorem fill_loop (W : WalksS P w A.in1 I fp wr G n Pv St) (z : Addr) (hz : z ∉ fp) (ks : List K) (hn : ks.length = n) (few : ks.length + 1 < scanBound) (hv : ∀ i v, Pv i v → ∃ k, ks[i]? = some k ∧ knd.is k v = true ∧ v.scannable = true) :
    ∀ (m i : Nat) (s : Shared), i + m = n → St i s → SetW knd s.heap z (metL (ks.take i)) → (∀ s', Moved (z :: wr) G s s' → SetW knd s'.heap z (metL ks) → R (.ok (.ret .none)) s') → codeAny (model P w) A (.builtin "set.update.loop" ⟨[.ref z, .ref I], []⟩) R s := by
  have nw : z ∉ wr := fun q => hz (W.sub z q)
  have up : ∀ b ∈ wr, b ∈ z :: wr := fun b q => List.mem_cons_of_mem z q
  intro m
  induction m with
  | zero =>
    intro i s hi st hs hR
    obtain rfl : i = n := by omega
    rw [List.take_of_length_le (Nat.le_of_eq hn)] at hs
    apply codeAny_builtin F.entry_set_update_loop
    rw [Around.under_plainId F.plain_set_update_loop]
    unfold Builtin.«set.update.loop»
    dsimp only
    apply wpAny_bind
    refine W.done s _ _ st fun s1 mv => ?_
    exact wpAny_pure (hR s1 (mv.mono up) (hs.keep fun o q => mv.heap z o nw q))
  | succ m ih =>
    intro i s hi st hs hR
    apply codeAny_builtin F.entry_set_update_loop
    rw [Around.under_plainId F.plain_set_update_loop]
    unfold Builtin.«set.update.loop»
    dsimp only
    apply wpAny_bind
    refine W.item i s _ _ (by omega) st fun v s1 pv st1 mv => ?_
    obtain ⟨k, hk, his, hsc⟩ := hv i v pv
    have hs1 : SetW knd s1.heap z (metL (ks.take i)) := hs.keep fun o q => mv.heap z o nw q
    have ln : (metL (ks.take i)).length ≤ ks.length := Nat.le_trans (metL_len _) (by rw [List.length_take]; omega)
    dsimp only
    apply wpAny_bind
    apply wpAny_holding
    unfold setAdd
    apply wpAny_holding
    apply wpAny_bind
    refine knd.pyHash his ?_
    refine add_walk (s := { s1 with toks := s1.toks + 1 }) his hsc hs1 (by omega) fun h2 b sb hs2 => ?_
    have hs3 : SetW knd h2 z (metL (ks.take (i + 1))) := by
      rw [List.take_add_one, hk]
      show SetW knd h2 z (metL (ks.take i ++ [k]))
      rw [metL_snoc]
      exact hs2
    refine wpAny_pure ⟨plainId_quiet F.plain_set_update_loop _, ih (i + 1) { s1 with heap := h2, toks := s1.toks + 1 } (by omega) (W.frame _ s1 _ _ st1 (Nat.le_succ _) fun c hc o q => ?_) hs3 fun s3 mv3 hs4 => ?_⟩
    · have ne : c ≠ z := fun e => hz (e ▸ hc)
      rw [sb.2 c ne]
      exact q
    · refine hR s3 (Moved.trans W.gtrans ((mv.mono up).then_heap (Nat.le_succ _) fun c o hc q => ?_) mv3) hs4
      have ne : c ≠ z := fun e => hc (e ▸ List.mem_cons_self)
      rw [sb.2 c ne]
      exact q
end
end PdSet

set_option maxHeartbeats 6400000
namespace PdSet
open PySem PySem.Spec PyProof.Rows L2
section
variable {P : Program} {w : World} {K : Type} [DecidableEq K] {knd : KeyKind P w K} {A : Around} {E : Value → Shared → Prop} {s : Shared}
abbrev bare (w : World) : Obj := { cls := .type "set", dict := none, data := .set #[] 0 (.fresh 0 0 (!w.params.followText "set-order")) }
theorem bare_ok {h : Heap} {a : Addr} (ho : h.get? a = some (bare w)) : SetW knd h a [] := by
  refine ⟨_, #[], 0, _, ho, ⟨rfl, rfl, rfl⟩, rfl, ⟨fun e he => by simp at he, fun k hk => (List.not_mem_nil hk).elim, rfl, List.nodup_nil, by show 0 < scanBound; decide, rfl, List.Pairwise.nil, ?_⟩⟩
  cases q : w.params.followText "set-order"
  · exact .inr rfl
  · exact .inl rfl

theorem set_list {l : Addr} {items : Array Value} {ks : List K} {Q : Value → Shared → Prop} (hh : A.handled = none) (hl : s.heap.IsList l items) (hi : ∀ (i : Nat) (v : Value), items[i]? = some v → ∃ k, ks[i]? = some k ∧ knd.is k v = true ∧ v.scannable = true) (hn : ks.length = items.size) (few : ks.length + 1 < scanBound)
    (hQ : ∀ h' tk, SetW knd h' s.heap.objs.size (metL ks) → (∀ b o, s.heap.get? b = some o → h'.get? b = some o) → Q (.ref s.heap.objs.size) { s with heap := h', toks := tk }) :
    wpAny (model P w) A (call (.type "set") [.ref l]) Q E s := by
  obtain ⟨mc, ml, hmro⟩ := F.called_set.mro
  have i1 := F.called_set.made
  have i2 := F.called_set.sub
  have i3 := F.called_set.notType
  have i4 := F.called_set.canCreate
  have i5 := F.typeCall_set_1 (.ref l)
  apply wpAny_call
  apply codeAny_of_tree
  show wpAny (model P w) _ (callAny (.type "set") _) _ _ s
  apply wpAny_pure
  refine ⟨Code.quiet_builtin _ (by decide +kernel), codeAny_builtin F.entry_type_call ?_⟩
  rw [Around.under_plain (weight_type_call_type "set" [.ref l] []) rfl]
  repeat (any_goals (first | assumption | wp_step))
  have here : (s.heap.push (bare w)).get? s.heap.objs.size = some (bare w) := Heap.get?_push_size _ rfl
  have kept : ∀ b o, s.heap.get? b = some o → (s.heap.push (bare w)).get? b = some o := fun b o q => Heap.get?_push_of_some _ q
  have isS : Shared.TypeIs { s with heap := s.heap.push (bare w) } (.ref s.heap.objs.size) "set" := ⟨_, here, rfl⟩
  have i6 := F.called_set.init.lookup
  have i7 := F.called_set.init.bind (.ref s.heap.objs.size)
  refine codeAny_mono (code_set_led1 (.ref l) (E := E) (Q₁ := fun v s1 => v = .ref s.heap.objs.size ∧ s1 = { s with heap := s.heap.push (bare w) }) ⟨rfl, rfl⟩) fun res s1 hres => ?_
  rcases res with e | fl
  · exact hres
  cases fl with
  | next => exact hres.elim
  | brk => exact hres.elim
  | cont => exact hres.elim
  | ret v =>
    obtain ⟨rfl, rfl⟩ := hres
    repeat (any_goals (first | assumption | wp_step))
    refine codeAny_mono (codeAny_call_builtin (R := wants (fun v s2 => v = .none ∧ ∃ h' tk, s2 = { s with heap := h', toks := tk } ∧ SetW knd h' s.heap.objs.size (metL ks) ∧ ∀ b o, s.heap.get? b = some o → h'.get? b = some o) E) F.called_set.init.plain F.entry_set_init (check_set_init_1 isS ?_)) fun res2 s2 hres2 => ?_
    · obtain ⟨⟨oc, od, ot, os⟩, ho, hc, cap, hd⟩ := hl
      dsimp only at hc hd
      subst hc hd
      have ho1 := kept l _ ho
      have ll : l < s.heap.objs.size := Heap.lt_size ho
      have j1 := F.sub_list_set
      have j2 := F.sub_list_frozenset
      have j3 : (Value.type "list" == Value.type "dict") = false := rfl
      have it : (s.heap.push (bare w)).IsList l items := ⟨_, ho1, rfl, cap, rfl⟩
      have sz : (s.heap.push (bare w)).objs.size = s.heap.objs.size + 1 := Heap.size_push _ _
      unfold Builtin.«set.__init__» noKeywords Builtin.Frozenset.updateFrom
      generalize hI : pyIter = iterOf
      wp_walk
      subst hI
      apply wpAny_pyIter_list it
      apply wpAny_bind
      apply wpAny_runValue
      have ne1 : l ≠ (s.heap.push (bare w)).objs.size := by rw [sz]; exact Nat.ne_of_lt (Nat.lt_succ_of_lt ll)
      have out : s.heap.objs.size ∉ [(s.heap.push (bare w)).objs.size, l] := by
        rw [sz]
        intro q
        rcases List.mem_cons.mp q with q | q
        · exact absurd q (Nat.ne_of_lt (Nat.lt_succ_self _))
        · exact absurd (List.mem_singleton.mp q) (Nat.ne_of_gt ll)
      refine fill_loop (knd := knd) (Walks.list (by simp [hh]) _ l ne1 items).toS s.heap.objs.size out ks hn few hi items.size 0 _ (Nat.zero_add _) ⟨⟨_, Heap.get?_push_size _ rfl, rfl, rfl⟩, it.push _⟩ (bare_ok (Heap.get?_push_of_some _ here)) fun s3 mv hw => ?_
      have e3 : s3 = { s with heap := s3.heap, toks := s3.toks } := by
        have q1 := mv.gens
        have q2 := mv.drawn
        have q3 := mv.os
        cases s3
        cases q1
        cases q2
        cases q3
        rfl
      refine wpAny_pure (wpAny_pure ⟨rfl, s3.heap, s3.toks, e3, hw, fun b o q => ?_⟩)
      have bl : b < s.heap.objs.size := Heap.lt_size q
      refine mv.heap b o (fun z => ?_) (Heap.get?_push_of_some _ (kept b o q))
      rcases List.mem_cons.mp z with z | z
      · exact Nat.lt_irrefl _ (z ▸ bl)
      · rw [List.mem_singleton.mp z, sz] at bl
        exact absurd bl (Nat.not_lt_of_lt (Nat.lt_succ_self _))
    · rcases res2 with e | fl2
      · exact hres2
      cases fl2 with
      | next => exact hres2.elim
      | brk => exact hres2.elim
      | cont => exact hres2.elim
      | ret u =>
        obtain ⟨rfl, h', tk, rfl, hw, hk⟩ := hres2
        repeat (any_goals (first | assumption | wp_step))
        exact hQ h' tk hw hk

theorem set_tuple {l : Addr} {items : Array Value} {ks : List K} {Q : Value → Shared → Prop} (hh : A.handled = none) (hl : s.heap.IsTuple l items) (hi : ∀ (i : Nat) (v : Value), items[i]? = some v → ∃ k, ks[i]? = some k ∧ knd.is k v = true ∧ v.scannable = true) (hn : ks.length = items.size) (few : ks.length + 1 < scanBound)
    (hQ : ∀ h' tk, SetW knd h' s.heap.objs.size (metL ks) → (∀ b o, s.heap.get? b = some o → h'.get? b = some o) → Q (.ref s.heap.objs.size) { s with heap := h', toks := tk }) :
    wpAny (model P w) A (call (.type "set") [.ref l]) Q E s := by
  obtain ⟨mc, ml, hmro⟩ := F.called_set.mro
  have i1 := F.called_set.made
  have i2 := F.called_set.sub
  have i3 := F.called_set.notType
  have i4 := F.called_set.canCreate
  have i5 := F.typeCall_set_1 (.ref l)
  apply wpAny_call
  apply codeAny_of_tree
  show wpAny (model P w) _ (callAny (.type "set") _) _ _ s
  apply wpAny_pure
  refine ⟨Code.quiet_builtin _ (by decide +kernel), codeAny_builtin F.entry_type_call ?_⟩
  rw [Around.under_plain (weight_type_call_type "set" [.ref l] []) rfl]
  repeat (any_goals (first | assumption | wp_step))
  have here : (s.heap.push (bare w)).get? s.heap.objs.size = some (bare w) := Heap.get?_push_size _ rfl
  have kept : ∀ b o, s.heap.get? b = some o → (s.heap.push (bare w)).get? b = some o := fun b o q => Heap.get?_push_of_some _ q
  have isS : Shared.TypeIs { s with heap := s.heap.push (bare w) } (.ref s.heap.objs.size) "set" := ⟨_, here, rfl⟩
  have i6 := F.called_set.init.lookup
  have i7 := F.called_set.init.bind (.ref s.heap.objs.size)
  refine codeAny_mono (code_set_led1 (.ref l) (E := E) (Q₁ := fun v s1 => v = .ref s.heap.objs.size ∧ s1 = { s with heap := s.heap.push (bare w) }) ⟨rfl, rfl⟩) fun res s1 hres => ?_
  rcases res with e | fl
  · exact hres
  cases fl with
  | next => exact hres.elim
  | brk => exact hres.elim
  | cont => exact hres.elim
  | ret v =>
    obtain ⟨rfl, rfl⟩ := hres
    repeat (any_goals (first | assumption | wp_step))
    refine codeAny_mono (codeAny_call_builtin (R := wants (fun v s2 => v = .none ∧ ∃ h' tk, s2 = { s with heap := h', toks := tk } ∧ SetW knd h' s.heap.objs.size (metL ks) ∧ ∀ b o, s.heap.get? b = some o → h'.get? b = some o) E) F.called_set.init.plain F.entry_set_init (check_set_init_1 isS ?_)) fun res2 s2 hres2 => ?_
    · obtain ⟨⟨oc, od, ot, os⟩, ho, hc, cap, hd⟩ := hl
      dsimp only at hc hd
      subst hc hd
      have ho1 := kept l _ ho
      have ll : l < s.heap.objs.size := Heap.lt_size ho
      have j1 := F.sub_tuple_set
      have j2 := F.sub_tuple_frozenset
      have j3 : (Value.type "tuple" == Value.type "dict") = false := rfl
      have it : (s.heap.push (bare w)).IsTuple l items := ⟨_, ho1, rfl, cap, rfl⟩
      have sz : (s.heap.push (bare w)).objs.size = s.heap.objs.size + 1 := Heap.size_push _ _
      unfold Builtin.«set.__init__» noKeywords Builtin.Frozenset.updateFrom
      generalize hI : pyIter = iterOf
      wp_walk
      subst hI
      apply wpAny_pyIter_tuple it
      apply wpAny_bind
      apply wpAny_runValue
      have ne1 : l ≠ (s.heap.push (bare w)).objs.size := by rw [sz]; exact Nat.ne_of_lt (Nat.lt_succ_of_lt ll)
      have out : s.heap.objs.size ∉ [(s.heap.push (bare w)).objs.size, l] := by
        rw [sz]
        intro q
        rcases List.mem_cons.mp q with q | q
        · exact absurd q (Nat.ne_of_lt (Nat.lt_succ_self _))
        · exact absurd (List.mem_singleton.mp q) (Nat.ne_of_gt ll)
      refine fill_loop (knd := knd) (Walks.tuple (by simp [hh]) _ l ne1 items).toS s.heap.objs.size out ks hn few hi items.size 0 _ (Nat.zero_add _) ⟨⟨_, Heap.get?_push_size _ rfl, rfl, rfl⟩, it.push _⟩ (bare_ok (Heap.get?_push_of_some _ here)) fun s3 mv hw => ?_
      have e3 : s3 = { s with heap := s3.heap, toks := s3.toks } := by
        have q1 := mv.gens
        have q2 := mv.drawn
        have q3 := mv.os
        cases s3
        cases q1
        cases q2
        cases q3
        rfl
      refine wpAny_pure (wpAny_pure ⟨rfl, s3.heap, s3.toks, e3, hw, fun b o q => ?_⟩)
      have bl : b < s.heap.objs.size := Heap.lt_size q
      refine mv.heap b o (fun z => ?_) (Heap.get?_push_of_some _ (kept b o q))
      rcases List.mem_cons.mp z with z | z
      · exact Nat.lt_irrefl _ (z ▸ bl)
      · rw [List.mem_singleton.mp z, sz] at bl
        exact absurd bl (Nat.not_lt_of_lt (Nat.lt_succ_self _))
    · rcases res2 with e | fl2
      · exact hres2
      cases fl2 with
      | next => exact hres2.elim
      | brk => exact hres2.elim
      | cont => exact hres2.elim
      | ret u =>
        obtain ⟨rfl, h', tk, rfl, hw, hk⟩ := hres2
        repeat (any_goals (first | assumption | wp_step))
        exact hQ h' tk hw hk
end
end PdSet

namespace PdSet
open PySem PySem.Spec PyProof.Rows L2
theorem perm_full {α : Type} [DecidableEq α] : ∀ {ks ys : List α}, ks.Nodup → (∀ k ∈ ks, k ∈ ys) → ys.length = ks.length → ys.Perm ks
  | [], ys, _, _, h => by
    have : ys = [] := List.length_eq_zero_iff.mp h
    rw [this]
  | k :: ks, ys, nd, hm, h => by
    obtain ⟨n1, n2⟩ := List.nodup_cons.mp nd
    have hk := hm k (by simp)
    have p := List.perm_cons_erase hk
    refine p.trans (List.Perm.cons k (perm_full n2 (fun j hj => ?_) ?_))
    · have ne : j ≠ k := fun e => n1 (e ▸ hj)
      exact (List.mem_erase_of_ne ne).mpr (hm j (by simp [hj]))
    · rw [List.length_erase_of_mem hk, h]
      simp
section
variable {P : Program} {w : World} {A : Around} {E : Value → Shared → Prop} {s : Shared} {a : Addr}
theorem sorted_texts {ks : List Str} {Q : Value → Shared → Prop} (R : SetW (PySem.strKind P w) s.heap a ks) (hh : A.handled = none) (h64 : ks.length < 64)
    (hQ : ∀ s' p (out : Array Value) (c : Nat) (ys : List Str), (∀ b o, s.heap.get? b = some o → s'.heap.get? b = some o) → s'.gens = s.gens → s'.os = s.os → s.heap.objs.size ≤ p →
      s'.heap.get? p = some (seqObj "list" out c) → StrsAre out.toList ys → ys.Perm ks → sortedS ys = true → Q (.ref p) s') : wpAny (model P w) A (call (.builtin "sorted") [.ref a]) Q E s := by
  obtain ⟨o, es, ep, t, ho, hx, hd, p⟩ := R
  apply Calls.call_function_entry PyProof.Rows.kind_sorted PyProof.Rows.plain_sorted PyProof.Rows.entry_sorted (PyProof.Rows.args_sorted1 _)
  unfold Builtin.«sorted»
  apply wpAny_bind (m := checkCount "sorted" 1 1 _)
  apply wpAny_pure
  apply wpAny_bind
  refine collect_set (A := A.in1) hh ⟨o, ho, hx.1, hd⟩ p.fit (by rw [p.size]; exact p.few) p.ris p.led fun s1 vs keep sz gn os pm => ?_
  have hl : vs.length = ks.length := by rw [pm.length_eq, List.length_map, Array.length_toList, p.size]
  have hs : ∀ v ∈ vs, ∃ x t, v = Value.str x t := fun v hv => by
    obtain ⟨e, he, rfl⟩ := List.mem_map.mp (pm.mem_iff.mp hv)
    obtain ⟨k, _, q⟩ := p.each e he
    obtain ⟨t, z⟩ := Value.isStrOf_shape q.is
    exact ⟨k, t, z⟩
  have S := strsAre_map vs hs
  have pk : (vs.map strOf).Perm ks := perm_full p.apart (fun k hk => by
    obtain ⟨e, he, q⟩ := p.every k hk
    obtain ⟨t, z⟩ := Value.isStrOf_shape q.is
    exact List.mem_map.mpr ⟨e.2, pm.mem_iff.mpr (List.mem_map.mpr ⟨e, he, rfl⟩), by rw [z]; rfl⟩) (by rw [List.length_map, hl])
  apply wpAny_bind
  refine wpAny_newList ?_ (by rw [hl, sizeLine_eq]; omega)
  have oL : (s1.heap.push (seqObj "list" vs.toArray 0)).get? s1.heap.objs.size = some (seqObj "list" vs.toArray 0) := Heap.get?_push_size _ rfl
  apply wpAny_bind
  apply wpAny_holding
  refine wpAny_call_entry PyProof.Rows.slot_list_sort ⟨_, oL, rfl⟩ PyProof.Rows.entry_list_sort (list_sort_treeK strKind_oneLt oL S.keysOf (fun v₁ v₂ rest e => keyKind_strs (by rw [← e]; exact S)) (by rw [hl]; exact h64) fun st hp hs => ⟨_, rfl, ?_⟩) (PyProof.Rows.args_list_sort _)
  obtain ⟨ys, y1, y2, y3⟩ := sorted_out_str S hp hs
  obtain ⟨c, hc⟩ := PyProof.Rows.sortedHeap_at (vs := vs) (out := (arrOf st).map (·.2)) oL
  refine wpAny_pure ⟨_, rfl, hQ _ s1.heap.objs.size _ c ys (fun b u q => ?_) gn os sz hc y1 (y2.trans pk) y3⟩
  have q1 := keep b u q
  have lt := Heap.lt_size q1
  show (sortedHeap (s1.heap.push (seqObj "list" vs.toArray 0)) s1.heap.objs.size vs ((arrOf st).map (·.2))).get? b = some u
  rw [PyProof.Rows.sortedHeap_old (Nat.ne_of_lt lt) (by rw [size_push']; exact Nat.lt_succ_of_lt lt)]
  exact Heap.get?_push_of_some _ q1
end
def SO (P : Program) (w : World) (a : Addr) (ks : List Str) : HO := .ext fun h => SetW (PySem.strKind P w) h a ks
theorem so_new {P : Program} {w : World} {H : Hp} {h : Heap} {a : Addr} {ks : List Str} (R : SetW (PySem.strKind P w) h a ks) : ObjOk P w H h a (SO P w a ks) :=
  have ⟨o, _, _, _, ho, _⟩ := R
  ⟨R, ⟨o, ho⟩, fun h1 h2 p k => p.keep k⟩
section
variable {X : Cx}
def TextsAt (K : PySem.W.Frag) (H : Hp) (l : Addr) (xs : List Str) : Prop := SqL K H l (xs.map V.str) ∨ SqT K H l (xs.map V.str)
def rSetS (K : PySem.W.Frag) (P : Program) (w : World) : List V → Hp → VK → Prop := fun vs H Q => ∃ (l : Addr) (xs : List Str), vs = [.ref l] ∧ TextsAt K H l xs ∧ xs.length < 1000 ∧ ∀ p, H p = none → Q (.ref p) (upd H p (SO P w p (metL xs)))
theorem texts_each {xs : List Str} {us : List Value} {P : Program} {w : World} (r : Vals (xs.map V.str) us) : (∀ (i : Nat) (v : Value), us.toArray[i]? = some v → ∃ k, xs[i]? = some k ∧ (PySem.strKind P w).is k v = true ∧ v.scannable = true) ∧ xs.length = us.toArray.size := by
  refine ⟨?_, by rw [List.size_toArray, ← r.length, List.length_map]⟩
  intro i v hv
  rw [List.getElem?_toArray] at hv
  induction xs generalizing us i with
  | nil => cases r; simp at hv
  | cons x xs ih =>
    cases r with
    | cons r1 r2 =>
      cases i with
      | zero =>
        obtain ⟨t, rfl⟩ := r1
        obtain rfl : Value.str x t = v := by simpa using hv
        exact ⟨x, rfl, PySem.strKind_is P w x t, rfl⟩
      | succ i => exact ih r2 i (by simpa using hv)
theorem cr_setS (hc : X.calm = true) : CallR X (.type "set") (rSetS X.K X.prog X.w) := by
  intro pins s σ H vs us Q I r h
  obtain ⟨l, xs, rfl, ht, hl, q⟩ := h
  rw [Vals.ref1 r]
  have sb : scanBound = 4096 := rfl
  have fin : ∀ h' tk, SetW (PySem.strKind X.prog X.w) h' s.heap.objs.size (metL xs) → (∀ b o, s.heap.get? b = some o → h'.get? b = some o) → EP X pins σ Q (.ref s.heap.objs.size) { s with heap := h', toks := tk } := fun h' tk R k =>
    ⟨.ref s.heap.objs.size, upd H s.heap.objs.size (SO X.prog X.w s.heap.objs.size (metL xs)), I.laid (t' := tk) k (Nat.le_refl _) (so_new R), rfl, q _ (I.hok.fresh (Nat.le_refl _))⟩
  rcases ht with ht | ht
  · obtain ⟨its, rv, pl, _⟩ := I.list ht
    obtain ⟨e1, e2⟩ := texts_each (P := X.prog) (w := X.w) rv
    exact set_list (I.ok.hd hc) pl.isList e1 e2 (by omega) fin
  · obtain ⟨its, rv, pl, _⟩ := I.tuple ht
    obtain ⟨e1, e2⟩ := texts_each (P := X.prog) (w := X.w) rv
    exact set_tuple (I.ok.hd hc) pl e1 e2 (by omega) fin
def rSortedS (P : Program) (w : World) : List V → Hp → VK → Prop := fun vs H Q => ∃ (a : Addr) (ks : List Str), vs = [.ref a] ∧ H a = some (SO P w a ks) ∧ ks.length < 64 ∧ ∀ ys p, ys.Perm ks → sortedS ys = true → H p = none → Q (.ref p) (upd H p (.lst (ys.map V.str)))
theorem cr_sortedS (hc : X.calm = true) : CallR X (.builtin "sorted") (rSortedS X.prog X.w) := by
  intro pins s σ H vs us Q I r h
  obtain ⟨a, ks, rfl, ha, h64, q⟩ := h
  have R : SetW (PySem.strKind X.prog X.w) s.heap a ks := (I.hok a _ ha).1
  rw [Vals.ref1 r]
  refine sorted_texts R (I.ok.hd hc) h64 fun s' p out c ys keep gn os hp hg hi pm so => ?_
  have hn : H p = none := I.hok.fresh hp
  have hlen : (ys.map V.str).length ≤ sizeLine := by rw [List.length_map, pm.length_eq, sizeLine_eq]; omega
  have J : Inv X pins σ (upd H p (.lst (ys.map V.str))) { s with heap := s'.heap, gens := s'.gens, drawn := s'.drawn, toks := s'.toks } :=
    I.call (ch := []) (Un.laid keep hp hn) (I.hok.laid keep hp ⟨hlen, out.toList, c, vals_of_strs hi, by rw [Array.toArray_toList]; exact hg⟩) (by rw [gn]; exact I.bare) (fun _ z => nomatch z)
  have e : s' = { s with heap := s'.heap, gens := s'.gens, drawn := s'.drawn, toks := s'.toks } := by
    cases s'
    cases os
    rfl
  rw [e]
  exact ⟨.ref p, _, J, rfl, q ys p pm so hn⟩
end
end PdSet

namespace Pd
open PySem PySem.Spec PyProof.Rows L2 PdSet
def leS (x y : Str) : Bool := !ltCps y.cps.toList x.cps.toList
theorem leS_iff {x y : Str} : leS x y = true ↔ x.cps.toList ≤ y.cps.toList := by
  unfold leS
  rw [ltCps_eq]
  simp
theorem leS_trans {x y z : Str} (h : leS x y = true) (k : leS y z = true) : leS x z = true := leS_iff.mpr (List.le_trans (leS_iff.mp h) (leS_iff.mp k))
theorem leS_anti {x y : Str} (h : leS x y = true) (k : leS y x = true) : x = y := by
  have e := List.le_antisymm (leS_iff.mp h) (leS_iff.mp k)
  obtain ⟨a⟩ := x
  obtain ⟨b⟩ := y
  have : a = b := Array.toList_inj.mp e
  rw [this]
theorem leS_total {x y : Str} (h : ¬ leS x y = true) : leS y x = true := by
  rw [leS_iff] at h ⊢
  exact (List.le_total _ _).resolve_left h
def insS (x : Str) : List Str → List Str
  | [] => [x]
  | y :: r => if leS x y = true then x :: y :: r else y :: insS x r
def sortS : List Str → List Str
  | [] => []
  | x :: r => insS x (sortS r)
theorem insS_perm (x : Str) : ∀ r, (insS x r).Perm (x :: r)
  | [] => .refl _
  | y :: r => by
    unfold insS
    split
    · exact .refl _
    · exact ((insS_perm x r).cons y).trans (.swap x y r)
theorem sortS_perm : ∀ r, (sortS r).Perm r
  | [] => .refl _
  | x :: r => (insS_perm x _).trans ((sortS_perm r).cons x)
theorem insS_sorted (x : Str) : ∀ r, r.Pairwise (fun a b => leS a b = true) → (insS x r).Pairwise fun a b => leS a b = true
  | [], _ => List.pairwise_singleton _ _
  | y :: r, h => by
    obtain ⟨h1, h2⟩ := List.pairwise_cons.mp h
    unfold insS
    split
    · rename_i q
      refine List.pairwise_cons.mpr ⟨fun z hz => ?_, h⟩
      rcases List.mem_cons.mp hz with rfl | hz
      · exact q
      · exact leS_trans q (h1 z hz)
    · rename_i q
      refine List.pairwise_cons.mpr ⟨fun z hz => ?_, insS_sorted x r h2⟩
      rcases List.mem_cons.mp ((insS_perm x r).mem_iff.mp hz) with rfl | hz
      · exact leS_total q
      · exact h1 z hz
theorem sortS_sorted : ∀ r, (sortS r).Pairwise fun a b => leS a b = true
  | [] => List.Pairwise.nil
  | x :: r => insS_sorted x _ (sortS_sorted r)
theorem rising_pw : ∀ (r : List Str) (p : Str), risingS p r = true → (p :: r).Pairwise fun a b => leS a b = true
  | [], p, _ => List.pairwise_singleton _ _
  | x :: r, p, h => by
    unfold risingS at h
    rw [Bool.and_eq_true] at h
    have ih := rising_pw r x h.2
    refine List.pairwise_cons.mpr ⟨fun z hz => ?_, ih⟩
    rcases List.mem_cons.mp hz with rfl | hz
    · exact h.1
    · exact leS_trans h.1 ((List.pairwise_cons.mp ih).1 z hz)
theorem sortS_unique {ks ys : List Str} (p : ys.Perm ks) (h : sortedS ys = true) : ys = sortS ks := by
  have pw : ys.Pairwise fun a b => leS a b = true := by
    cases ys with
    | nil => exact List.Pairwise.nil
    | cons x r => exact rising_pw r x h
  exact List.Perm.eq_of_pairwise (fun a b _ _ h1 h2 => leS_anti h1 h2) pw (sortS_sorted ks) (p.trans (sortS_perm ks).symm)
def strs? : List D → Option (List Str)
  | [] => some []
  | .str x :: r => (strs? r).map (x :: ·)
  | _ => none
theorem strs?_is : ∀ {ds : List D} {xs : List Str}, strs? ds = some xs → ds = xs.map D.str
  | [], _, h => by cases h; rfl
  | .str x :: r, xs, h => by
    unfold strs? at h
    cases hr : strs? r with
    | none => rw [hr] at h; cases h
    | some m =>
      rw [hr] at h
      cases h
      rw [strs?_is hr]
      rfl
theorem strs?_map (xs : List Str) : strs? (xs.map D.str) = some xs := by
  induction xs with
  | nil => rfl
  | cons x xs ih =>
    show (strs? (xs.map D.str)).map (x :: ·) = _
    rw [ih]
    rfl
def textsD : D → Option (List Str)
  | .lst xs => strs? xs
  | .tup xs => strs? xs
  | _ => none
def fSortSet (fa : EM) : AM := fun e p => (fa e p).bind fun x e p => match textsD x with
  | some xs => if xs.length < 64 then .ok ((sortS (metL xs)).map D.str) e p else .bad
  | none => .bad
section
variable {K : PySem.W.Frag} {mg : Str → Option Value} {pa : Addr} {G : Hp}
theorem rep_texts : ∀ {xs : List Str} {vs : List V}, Reps K mg pa G vs (xs.map D.str) → vs = xs.map V.str
  | [], _, .nil => rfl
  | x :: xs, _, .cons h r => by
    cases h
    rw [rep_texts r]
    rfl
theorem reps_texts : ∀ ys : List Str, Reps K mg pa G (ys.map V.str) (ys.map D.str)
  | [] => .nil
  | y :: ys => .cons (.str y) (reps_texts ys)
end
section
variable {X : Cx} {WW : WX} {a b : Expr} {pos : Pos} {fa fb : EM}
theorem texts_at {w : Wl} {G H1 : Hp} {v : V} {d : D} {xs : List Str} (s : Sub G H1) (hx : RepQ (wd X w) G H1 v d) (h : textsD d = some xs) : ∃ l, v = .ref l ∧ TextsAt X.K H1 l xs := by
  unfold textsD at h
  split at h
  · obtain ⟨l, vs, rfl, h1, h2⟩ := hx.lst s
    rw [strs?_is h] at h2
    have e := rep_texts h2
    subst e
    exact ⟨l, rfl, .inl (SqL.of h1)⟩
  · obtain ⟨l, vs, rfl, h1, h2⟩ := hx.tup s
    rw [strs?_is h] at h2
    have e := rep_texts h2
    subst e
    exact ⟨l, rfl, .inr (s.t h1)⟩
  · cases h
theorem df_sortSet {p p2 q : Pos} (hc : X.calm = true) (hg : Gl X "sorted") (hm : X.mg "sorted" = none) (hv : bootBuiltins "sorted" = some (.builtin "sorted")) (hg2 : Gl X "set") (hm2 : X.mg "set" = none) (hv2 : bootBuiltins "set" = some (.type "set")) (ha : DQ X WW a fa)
    (hs : starEach (a :: []) X.env = (false, eval a X.env) :: starEach [] X.env := by rfl) (hs2 : starEach [.Call (.Name "set" p2) [a] [] q] X.env = (false, eval (.Call (.Name "set" p2) [a] [] q) X.env) :: starEach [] X.env := by rfl) :
    DF X WW (.Call (.Name "sorted" p) [.Call (.Name "set" p2) [a] [] q] [] pos) (fSortSet fa) :=
  PEw (pe_callB (cr_sortedS hc) hg hm hv (pa_cons (pe_callTy (cr_setS hc) hg2 hm2 hv2 (pa_cons ha pa_nil hs) (hn := by decide) (hdb := by decide) (he := hs)) pa_nil hs2) (hn := by decide) (hdb := by decide) (he := hs2)) fun σ H Q q => (qf_w q).imp fun v H1 ⟨w, G, d, e, p, r, hx, q1⟩ => by
    split at q1
    · rename_i xs hxs
      split at q1
      · rename_i h64
        obtain ⟨l, rfl, ht⟩ := texts_at r.sub hx hxs
        refine ⟨l, xs, rfl, ht, by omega, fun a1 h1 => ?_⟩
        refine ⟨a1, metL xs, rfl, upd_same, Nat.lt_of_le_of_lt (metL_len xs) h64, fun ys p3 pm so h3 => ?_⟩
        rw [sortS_unique pm so] at *
        exact q1 G p3 _ _ (Sub.refl _) (r.extra h1 _) h3 (reps_texts _)
      · exact q1.elim
    · exact q1.elim
end
end Pd

namespace Pd
open PySem PySem.Spec PyProof.Rows L2
theorem boot_set : bootBuiltins "set" = some (.type "set") := by decide +kernel
end Pd

namespace Pd
open PySem PySem.Spec L2
structure PenOk (n : Nat) (p : Pen) : Prop where
  at0 : 0 ≤ p.at_
  dig : 0 ≤ p.digits
  cnt : 0 ≤ p.count ∧ p.count ≤ n
  fld : 0 ≤ p.fold ∧ p.fold < 2147483648
theorem PenOk.mono {n m : Nat} {p : Pen} (h : PenOk n p) (l : n ≤ m) : PenOk m p := ⟨h.at0, h.dig, ⟨h.cnt.1, by have := h.cnt.2; omega⟩, h.fld⟩
theorem penOk_start (ns : List Int) : PenOk 0 (penOf ns) := ⟨Int.le_refl _, Int.le_refl _, ⟨Int.le_refl _, Int.le_refl _⟩, by
  have := foldP_lt ns
  show 0 ≤ foldP ns ∧ foldP ns < 2147483648
  omega⟩
theorem log_lt {x : Int} {k : Nat} (h : x.natAbs < 2 ^ k) (hk : 0 < k) : x.natAbs.log2 < k := by
  by_cases z : x.natAbs = 0
  · rw [z]; simpa using hk
  · exact (Nat.log2_lt z).mpr h
def drawA (p : Pen) : Pen :=
  let q := { p with count := p.count + 1 }
  if q.digits = 0 ∧ q.at_ < q.cells.length then
    match q.cells[q.at_.toNat]? with
    | some c => if 1000000000000000000 ≤ c then { q with at_ := q.at_ + 1, digits := c - 1000000000000000000 } else { q with at_ := q.at_ + 1, fold := (q.fold * 69069 + c) % 2147483587 }
    | none => q
  else q
def drawP (p : Pen) (many : Int) : Int × Pen :=
  let q := drawA p
  if 0 < q.digits then (q.digits % many, { q with digits := q.digits / many })
  else (((q.fold + q.count * 7907 + 37) ^ 17 % 2305843009213693951) / 128 % many, q)
theorem pg1 (p : Pen) : penGet "cells" p = some (.lst (p.cells.map D.int)) := rfl
theorem pg2 (p : Pen) : penGet "at" p = some (.int p.at_) := rfl
theorem pg3 (p : Pen) : penGet "digits" p = some (.int p.digits) := rfl
theorem pg4 (p : Pen) : penGet "count" p = some (.int p.count) := rfl
theorem pg5 (p : Pen) : penGet "fold" p = some (.int p.fold) := rfl
theorem ps2 (p : Pen) (z : Int) : penSet "at" p (.int z) = some { p with at_ := z } := rfl
theorem ps3 (p : Pen) (z : Int) : penSet "digits" p (.int z) = some { p with digits := z } := rfl
theorem ps4 (p : Pen) (z : Int) : penSet "count" p (.int z) = some { p with count := z } := rfl
theorem ps5 (p : Pen) (z : Int) : penSet "fold" p (.int z) = some { p with fold := z } := rfl
theorem eqD_int (i j : Int) : eqD (.int i) (.int j) = some (.bl (i == j)) := rfl
theorem ixD_lst {xs : List D} {i : Int} {d : D} (h0 : 0 ≤ i) (h : xs[i.toNat]? = some d) : ixD (.lst xs) (.int i) = some d := by
  have hl : i.toNat < xs.length := (List.getElem?_eq_some_iff.mp h).1
  show L2.atI xs i = some d
  unfold L2.atI L2.ixN
  rw [if_pos h0, if_pos (by omega)]
  exact h
theorem sSeq_nx {f g : SM} {e e' : Ev} {p p' : Pen} (h : f e p = .nx e' p') : sSeq f g e p = g e' p' := by
  unfold sSeq
  rw [h]
  rfl
theorem sSeq_rt {f g : SM} {e e' : Ev} {p p' : Pen} {d : D} (h : f e p = .rt d e' p') : sSeq f g e p = .rt d e' p' := by
  unfold sSeq
  rw [h]
  rfl
theorem sSeq_exc {f g : SM} {e e' : Ev} {p p' : Pen} {x : Xn} (h : f e p = .exc x e' p') : sSeq f g e p = .exc x e' p' := by
  unfold sSeq
  rw [h]
  rfl
theorem drawA_ok {n : Nat} {p : Pen} (h : PenOk n p) : PenOk (n + 1) (drawA p) := by
  unfold drawA
  dsimp only
  have c := h.cnt
  have f := h.fld
  have a := h.at0
  have d := h.dig
  split
  · split
    · split
      · exact ⟨by show 0 ≤ p.at_ + 1; omega, by show 0 ≤ _ - _; omega, ⟨by show 0 ≤ p.count + 1; omega, by show p.count + 1 ≤ _; omega⟩, f⟩
      · refine ⟨by show 0 ≤ p.at_ + 1; omega, d, ⟨by show 0 ≤ p.count + 1; omega, by show p.count + 1 ≤ _; omega⟩, ?_⟩
        show 0 ≤ _ % 2147483587 ∧ _ % 2147483587 < 2147483648
        have h1 := Int.emod_nonneg (p.fold * 69069 + ‹Int›) (show (2147483587 : Int) ≠ 0 by decide)
        have h2 := Int.emod_lt_of_pos (p.fold * 69069 + ‹Int›) (show (0 : Int) < 2147483587 by decide)
        constructor
        · assumption
        · omega
    · exact ⟨a, d, ⟨by show 0 ≤ p.count + 1; omega, by show p.count + 1 ≤ _; omega⟩, f⟩
  · exact ⟨a, d, ⟨by show 0 ≤ p.count + 1; omega, by show p.count + 1 ≤ _; omega⟩, f⟩
theorem drawP_ok {n : Nat} {p : Pen} {many : Int} (h : PenOk n p) (hm : 0 < many) : PenOk (n + 1) (drawP p many).2 ∧ 0 ≤ (drawP p many).1 ∧ (drawP p many).1 < many := by
  have q := drawA_ok h
  unfold drawP
  dsimp only
  split
  · exact ⟨⟨q.at0, Int.ediv_nonneg q.dig (by omega), q.cnt, q.fld⟩, Int.emod_nonneg _ (by omega), Int.emod_lt_of_pos _ hm⟩
  · exact ⟨q, Int.emod_nonneg _ (by omega), Int.emod_lt_of_pos _ hm⟩
abbrev nInts (l : List Nat) : List D := l.map fun (n : Nat) => D.int (n : Int)
theorem ixD_tup {xs : List D} {i : Nat} {d : D} (h : xs[i]? = some d) : ixD (.tup xs) (.int (i : Int)) = some d := by
  have hl : i < xs.length := (List.getElem?_eq_some_iff.mp h).1
  show L2.atI xs i = some d
  unfold L2.atI L2.ixN
  rw [if_pos (by omega), if_pos (by omega)]
  simpa using h
theorem nx {l : List Nat} {i x : Nat} (h : l[i]? = some x) : ixD (.tup (nInts l)) (.int (i : Int)) = some (.int (x : Int)) := ixD_tup (by rw [List.getElem?_map, h]; rfl)
theorem compGo_map {g : GM} {t : TM} {f : EM} {eb : Ev} {p : Pen} {F : D → D} : ∀ {xs : List D}, (∀ x ∈ xs, ∃ e1 e2, g x eb = some e1 ∧ t e1 p = .ok true e2 p ∧ ∃ e3, f e2 p = .ok (F x) e3 p) → compGo g t f eb xs p = some (xs.map F, p)
  | [], _ => rfl
  | x :: xs, h => by
    obtain ⟨e1, e2, h1, h2, e3, h3⟩ := h x (by simp)
    have ih := compGo_map (xs := xs) fun y hy => h y (by simp [hy])
    unfold compGo
    rw [h1]
    dsimp only
    rw [h2]
    dsimp only
    rw [h3]
    dsimp only
    rw [ih]
    rfl
theorem bools_true : ∀ (n : Nat), bools? (List.replicate n (D.bl true)) = some (List.replicate n true)
  | 0 => rfl
  | n + 1 => by
    rw [List.replicate_succ]
    unfold bools?
    rw [bools_true n]
    rfl
theorem all_true (xs : List D) : allD (.lst (xs.map fun _ => D.bl true)) = some (.bl true) := by
  have e : xs.map (fun _ => D.bl true) = List.replicate xs.length (D.bl true) := List.map_const' ..
  rw [e]
  show (bools? _).map _ = _
  rw [bools_true]
  show some (D.bl ((List.replicate xs.length true).all id)) = _
  congr 2
  induction xs.length with
  | zero => rfl
  | succ n ih => rw [List.replicate_succ]; exact ih
theorem isi_tup (xs : List D) : isiD "tuple" (.tup xs) = some (.bl true) := by kernel_rfl
theorem o_add (i j : Int) : addD (.int i) (.int j) = some (.int (i + j)) := rfl
theorem o_sub (i j : Int) : subD (.int i) (.int j) = some (.int (i - j)) := rfl
theorem o_lt (i j : Int) : ltD (.int i) (.int j) = some (.bl (decide (i < j))) := rfl
theorem o_le (i j : Int) : leD (.int i) (.int j) = some (.bl (decide (i ≤ j))) := rfl
theorem o_gt (i j : Int) : gtD (.int i) (.int j) = some (.bl (decide (j < i))) := rfl
theorem o_ge (i j : Int) : geD (.int i) (.int j) = some (.bl (decide (j ≤ i))) := rfl
theorem o_ne (i j : Int) : neD (.int i) (.int j) = some (.bl (!(i == j))) := rfl
theorem o_eq (i j : Int) : eqD (.int i) (.int j) = some (.bl (i == j)) := rfl
theorem o_lenT (xs : List D) : lenD (.tup xs) = some (.int (xs.length : Int)) := rfl
theorem o_lenL (xs : List D) : lenD (.lst xs) = some (.int (xs.length : Int)) := rfl
theorem mkF_rt {m : Nat} {f : SM} {ds : List D} {p p' : Pen} {d : D} {e' : Ev} (E : Ev) (hE : ds.map (fun d => some (Sl.v d)) ++ List.replicate (m - ds.length) none = E) (h : f E p = .rt d e' p') : mkF m f ds p = .ok d p' := by
  subst hE
  unfold mkF
  rw [h]
theorem mkF_exc {m : Nat} {f : SM} {ds : List D} {p p' : Pen} {x : Xn} {e' : Ev} (E : Ev) (hE : ds.map (fun d => some (Sl.v d)) ++ List.replicate (m - ds.length) none = E) (h : f E p = .exc x e' p') : mkF m f ds p = .exc x p' := by
  subst hE
  unfold mkF
  rw [h]
theorem mkF_nx {m : Nat} {f : SM} {ds : List D} {p p' : Pen} {e' : Ev} (E : Ev) (hE : ds.map (fun d => some (Sl.v d)) ++ List.replicate (m - ds.length) none = E) (h : f E p = .nx e' p') : mkF m f ds p = .ok .non p' := by
  subst hE
  unfold mkF
  rw [h]
theorem sIf_f {t : TM} {a b : SM} {e e' : Ev} {p p' : Pen} (h : t e p = .ok false e' p') : sIf t a b e p = b e' p' := by
  unfold sIf
  rw [h]
  rfl
theorem sIf_fn {t : TM} {a : SM} {e e' : Ev} {p p' : Pen} (h : t e p = .ok false e' p') : sIf t a sNext e p = .nx e' p' := by
  unfold sIf
  rw [h]
  rfl
theorem sIf_t {t : TM} {a b : SM} {e e' : Ev} {p p' : Pen} (h : t e p = .ok true e' p') : sIf t a b e p = a e' p' := by
  unfold sIf
  rw [h]
  rfl
theorem fComp_map {js : List Nat} {it : AM} {vs : List Nat} {g : GM} {t : TM} {f : EM} {e e' : Ev} {p : Pen} {ds : List D} {F : D → D}
    (h1 : it (freeze js e) p = .ok ds e' p) (h2 : ds.length ≤ 10000000)
    (h3 : ∀ x ∈ ds, ∃ e1 e2, g x (mask vs e') = some e1 ∧ t e1 p = .ok true e2 p ∧ ∃ e3, f e2 p = .ok (F x) e3 p) :
    fComp js it vs g t f e p = .ok (ds.map F) e' p := by
  unfold fComp
  rw [h1]
  show (if small ds.length then _ else _) = _
  rw [if_pos h2, compGo_map h3]
theorem all_comp {js : List Nat} {it : AM} {vs : List Nat} {g : GM} {t : TM} {f : EM} {e e' : Ev} {p : Pen} {ds : List D}
    (h1 : it (freeze js e) p = .ok ds e' p) (h2 : ds.length ≤ 10000000)
    (h3 : ∀ x ∈ ds, ∃ e1 e2, g x (mask vs e') = some e1 ∧ t e1 p = .ok true e2 p ∧ ∃ e3, f e2 p = .ok (.bl true) e3 p) :
    eUn allD (eF (fComp js it vs g t f)) e p = .ok (.bl true) e' p := by
  unfold eUn eF
  rw [fComp_map (F := fun _ => .bl true) h1 h2 h3]
  show optR (allD (.lst _)) e' p = _
  rw [all_true]
  rfl
theorem compGo_q {g : GM} {t : TM} {f : EM} {eb : Ev} {Q : D → Prop} {N c : Nat} : ∀ (xs : List D) (n : Nat) (p : Pen),
    (∀ x ∈ xs, ∀ m p, m + c ≤ N → PenOk m p → ∃ e1 e2 d e3 p', g x eb = some e1 ∧ t e1 p = .ok true e2 p ∧ f e2 p = .ok d e3 p' ∧ Q d ∧ PenOk (m + c) p') → n + c * xs.length ≤ N → PenOk n p →
    ∃ ys p', compGo g t f eb xs p = some (ys, p') ∧ ys.length = xs.length ∧ (∀ y ∈ ys, Q y) ∧ PenOk (n + c * xs.length) p'
  | [], n, p, _, _, h => ⟨[], p, rfl, rfl, (fun _ z => by cases z), by simpa using h⟩
  | x :: xs, n, p, hs, hn, h => by
    rw [List.length_cons, Nat.mul_add, Nat.mul_one] at hn
    obtain ⟨e1, e2, d, e3, p1, h1, h2, h3, h4, h5⟩ := hs x (by simp) n p (by omega) h
    obtain ⟨ys, p2, k1, k2, k3, k4⟩ := compGo_q xs (n + c) p1 (fun y hy => hs y (by simp [hy])) (by omega) h5
    refine ⟨d :: ys, p2, ?_, by simp [k2], fun y hy => ?_, ?_⟩
    · unfold compGo
      rw [h1]
      dsimp only
      rw [h2]
      dsimp only
      rw [h3]
      dsimp only
      rw [k1]
      rfl
    · rcases List.mem_cons.mp hy with rfl | hy
      · exact h4
      · exact k3 y hy
    · rw [List.length_cons, Nat.mul_add, Nat.mul_one]
      exact k4.mono (by omega)
theorem compGoF_q {g : GM} {t : TM} {f : AM} {eb : Ev} {Q : List D → Prop} {N c : Nat} : ∀ (xs : List D) (n : Nat) (p : Pen),
    (∀ x ∈ xs, ∀ m p, m + c ≤ N → PenOk m p → ∃ e1 e2 d e3 p', g x eb = some e1 ∧ t e1 p = .ok true e2 p ∧ f e2 p = .ok d e3 p' ∧ Q d ∧ PenOk (m + c) p') → n + c * xs.length ≤ N → PenOk n p →
    ∃ ys p', compGoF g t f eb xs p = some (ys, p') ∧ ys.length = xs.length ∧ (∀ y ∈ ys, Q y) ∧ PenOk (n + c * xs.length) p'
  | [], n, p, _, _, h => ⟨[], p, rfl, rfl, (fun _ z => by cases z), by simpa using h⟩
  | x :: xs, n, p, hs, hn, h => by
    rw [List.length_cons, Nat.mul_add, Nat.mul_one] at hn
    obtain ⟨e1, e2, d, e3, p1, h1, h2, h3, h4, h5⟩ := hs x (by simp) n p (by omega) h
    obtain ⟨ys, p2, k1, k2, k3, k4⟩ := compGoF_q xs (n + c) p1 (fun y hy => hs y (by simp [hy])) (by omega) h5
    refine ⟨d :: ys, p2, ?_, by simp [k2], fun y hy => ?_, ?_⟩
    · unfold compGoF
      rw [h1]
      dsimp only
      rw [h2]
      dsimp only
      rw [h3]
      dsimp only
      rw [k1]
      rfl
    · rcases List.mem_cons.mp hy with rfl | hy
      · exact h4
      · exact k3 y hy
    · rw [List.length_cons, Nat.mul_add, Nat.mul_one]
      exact k4.mono (by omega)
theorem nInts_of {m : Nat} : ∀ {ys : List D}, (∀ y ∈ ys, ∃ k : Nat, y = .int (k : Int) ∧ k < m) → ∃ l : List Nat, ys = nInts l ∧ l.length = ys.length ∧ ∀ k ∈ l, k < m
  | [], _ => ⟨[], rfl, rfl, (fun _ z => by cases z)⟩
  | y :: ys, h => by
    obtain ⟨k, rfl, hk⟩ := h y (by simp)
    obtain ⟨l, h1, h2, h3⟩ := nInts_of (ys := ys) fun z hz => h z (by simp [hz])
    refine ⟨k :: l, by rw [h1]; rfl, by simp [h2], fun x hx => ?_⟩
    rcases List.mem_cons.mp hx with rfl | hx
    · exact hk
    · exact h3 x hx
theorem rows_of {b m : Nat} : ∀ {ys : List (List D)}, (∀ y ∈ ys, ∃ l : List Nat, y = nInts l ∧ l.length = b ∧ ∀ k ∈ l, k < m) → ∃ R : List (List Nat), ys = R.map nInts ∧ R.length = ys.length ∧ ∀ r ∈ R, r.length = b ∧ ∀ k ∈ r, k < m
  | [], _ => ⟨[], rfl, rfl, (fun _ z => by cases z)⟩
  | y :: ys, h => by
    obtain ⟨l, rfl, hl⟩ := h y (by simp)
    obtain ⟨R, h1, h2, h3⟩ := rows_of (ys := ys) fun z hz => h z (by simp [hz])
    refine ⟨l :: R, by rw [h1]; rfl, by simp [h2], fun x hx => ?_⟩
    rcases List.mem_cons.mp hx with rfl | hx
    · exact hl
    · exact h3 x hx
theorem range_n (m : Nat) (hm : m ≤ 1000000000) (fs : AM) (e e' : Ev) (p : Pen) (h : fs e p = .ok [.int (m : Int)] e' p) : iRange1 fs e p = .ok (rangeD 0 m) e' p := by
  unfold iRange1
  rw [h]
  show (if -1000000000 ≤ (m : Int) ∧ (m : Int) ≤ 1000000000 then _ else _) = _
  rw [if_pos (by omega)]
  rfl
theorem rangeD_len (l : Int) (n : Nat) : (rangeD l n).length = n := by simp [rangeD]
theorem aCons_ok {f : EM} {r : AM} {e e1 e2 : Ev} {p p1 p2 : Pen} {d : D} {ds : List D} (h1 : f e p = .ok d e1 p1) (h2 : r e1 p1 = .ok ds e2 p2) : aCons f r e p = .ok (d :: ds) e2 p2 := by
  unfold aCons
  rw [h1]
  dsimp only [Res.bind]
  rw [h2]
theorem eTup_ok {f : AM} {e e1 : Ev} {p p1 : Pen} {ds : List D} (h1 : f e p = .ok ds e1 p1) (h2 : ds.length ≤ 10000000) : eTup f e p = .ok (.tup ds) e1 p1 := by
  unfold eTup
  rw [h1]
  dsimp only [Res.bind]
  rw [if_pos h2]
theorem sRet_ok {f : EM} {e e1 : Ev} {p p1 : Pen} {d : D} (h1 : f e p = .ok d e1 p1) : sRet f e p = .rt d e1 p1 := by
  unfold sRet
  rw [h1]
  rfl
theorem tupF_ok {f : AM} {e e1 : Ev} {p p1 : Pen} {ds : List D} (h1 : f e p = .ok ds e1 p1) : eUn tupleD (eF f) e p = .ok (.tup ds) e1 p1 := by
  unfold eUn eF
  rw [h1]
  rfl
theorem cut_take {α : Type} (xs : List α) (many : Nat) : cutG xs none (some (many : Int)) = xs.take many := by
  unfold cutG
  rw [HT.sIx_none, HT.sIx_nat, List.drop_zero, Nat.sub_zero]
  rcases Nat.le_total many xs.length with q | q
  · rw [Nat.min_eq_left q]
  · rw [Nat.min_eq_right q, List.take_of_length_le (Nat.le_refl _), List.take_of_length_le q]
theorem nInts_map (l : List Nat) (f : Nat → Nat) (F : D → D) (h : ∀ s ∈ l, F (.int (s : Int)) = .int (f s : Nat)) : (nInts l).map F = nInts (l.map f) := by
  show List.map F (List.map _ l) = List.map _ (List.map f l)
  rw [List.map_map, List.map_map]
  exact List.map_congr_left h
theorem eCall_ok {F : Fn} {fs : AM} {dds : List D} {e e1 : Ev} {p p1 p2 : Pen} {ds : List D} {d : D} (h1 : fs e p = .ok ds e1 p1) (h2 : F (ds ++ dds) p1 = .ok d p2) : eCall F fs dds e p = .ok d e1 p2 := by
  unfold eCall
  rw [h1]
  dsimp only [Res.bind]
  rw [h2]
theorem eCall_exc {F : Fn} {fs : AM} {dds : List D} {e e1 : Ev} {p p1 p2 : Pen} {ds : List D} {x : Xn} (h1 : fs e p = .ok ds e1 p1) (h2 : F (ds ++ dds) p1 = .exc x p2) : eCall F fs dds e p = .exc x e1 p2 := by
  unfold eCall
  rw [h1]
  dsimp only [Res.bind]
  rw [h2]
theorem forGo_nx {g : GM} {body : SM} {x : D} {xs : List D} {e e1 e2 : Ev} {p p2 : Pen} (h1 : g x e = some e1) (h2 : body e1 p = .nx e2 p2) : forGo g body (x :: xs) e p = forGo g body xs e2 p2 := by
  conv => lhs; unfold forGo
  rw [h1]
  dsimp only
  rw [h2]
theorem beq_nInts : ∀ l : List Nat, D.beqs (nInts l) (nInts l) = true
  | [] => rfl
  | n :: l => by
    show ((n : Int) == (n : Int) && D.beqs (nInts l) (nInts l)) = true
    rw [beq_nInts l]
    simp
theorem ne_nInts (l : List Nat) : neD (.tup (nInts l)) (.tup (nInts l)) = some (.bl false) := by
  have h1 : D.pl 12 (.tup (nInts l)) = true := by
    show (nInts l).all (D.pl 11) = true
    rw [List.all_eq_true]
    intro x hx
    obtain ⟨n, _, rfl⟩ := List.mem_map.mp hx
    rfl
  unfold neD
  rw [if_pos ⟨h1, h1⟩]
  show some (D.bl (!(D.beqs _ _))) = _
  rw [beq_nInts]
  rfl
theorem sExpr_exc {f : EM} {e e' : Ev} {p p' : Pen} {x : Xn} (h : f e p = .exc x e' p') : sExpr f e p = .exc x e' p' := by
  unfold sExpr
  rw [h]
  rfl
theorem eLam_exc {cs : List Cl} {s : Str} {f : EM} {e e' : Ev} {p p' : Pen} {x : Xn} {d : D} (h : f e p = .exc x e' p') (hd : clsD x cs = some d) : eLam cs s f e p = .ok d e' p' := by
  unfold eLam
  rw [h]
  dsimp only
  rw [hd]
  rfl
end Pd

namespace Pd
open PySem PySem.Spec L2
def digs (b : Nat) (n : Nat) : List Nat := if h : 2 ≤ b ∧ 0 < n then digs b (n / b) ++ [n % b] else []
termination_by n
decreasing_by exact Nat.div_lt_self h.2 h.1
theorem digs_zero (b : Nat) : digs b 0 = [] := by unfold digs; rw [dif_neg (by omega)]
theorem digs_pos {b n : Nat} (hb : 2 ≤ b) (hn : 0 < n) : digs b n = digs b (n / b) ++ [n % b] := by
  rw [digs, dif_pos ⟨hb, hn⟩]
theorem digs_len {b : Nat} (hb : 2 ≤ b) : ∀ (k n : Nat), n < 2 ^ k → (digs b n).length ≤ k
  | 0, n, h => by
    have : n = 0 := by simpa using h
    rw [this, digs_zero]
    exact Nat.le_refl _
  | k + 1, n, h => by
    by_cases z : 0 < n
    · rw [digs_pos hb z, List.length_append, List.length_singleton]
      have := digs_len hb k (n / b) (by
        have h1 : n / b ≤ n / 2 := Nat.div_le_div_left hb (by decide)
        have h2 : n / 2 < 2 ^ k := by rw [Nat.pow_succ] at h; omega
        omega)
      omega
    · have : n = 0 := by omega
      rw [this, digs_zero]
      simp
theorem digs_lt {b : Nat} (hb : 2 ≤ b) : ∀ n, ∀ d ∈ digs b n, d < b := by
  intro n
  induction n using Nat.strongRecOn with
  | _ n ih =>
    intro d hd
    by_cases z : 0 < n
    · rw [digs_pos hb z] at hd
      rcases List.mem_append.mp hd with h | h
      · exact ih _ (Nat.div_lt_self z hb) d h
      · rw [List.mem_singleton.mp h]
        exact Nat.mod_lt _ (by omega)
    · have : n = 0 := by omega
      rw [this, digs_zero] at hd
      cases hd
def numF (b : Nat) (f : Nat) (ds : List Nat) : Nat := ds.foldl (fun f d => f * b + d) f
abbrev numB (b : Nat) (ds : List Nat) : Nat := numF b 0 ds
theorem numF_append (b f : Nat) (xs ys : List Nat) : numF b f (xs ++ ys) = numF b (numF b f xs) ys := List.foldl_append
theorem numB_digs {b : Nat} (hb : 2 ≤ b) : ∀ n, numB b (digs b n) = n := by
  intro n
  induction n using Nat.strongRecOn with
  | _ n ih =>
    by_cases z : 0 < n
    · rw [digs_pos hb z, numB, numF_append]
      have := ih _ (Nat.div_lt_self z hb)
      rw [numB] at this
      rw [this]
      show n / b * b + n % b = n
      rw [Nat.mul_comm]
      exact Nat.div_add_mod n b
    · have : n = 0 := by omega
      rw [this, digs_zero]
      rfl
theorem numB_zeros (b : Nat) : ∀ (k : Nat) (ds : List Nat), numB b (List.replicate k 0 ++ ds) = numB b ds
  | 0, ds => by simp
  | k + 1, ds => by
    rw [List.replicate_succ, List.cons_append]
    show numF b (0 * b + 0) (List.replicate k 0 ++ ds) = _
    rw [Nat.zero_mul]
    exact numB_zeros b k ds
theorem numF_lt {b : Nat} (hb : 0 < b) : ∀ (ds : List Nat) (f k : Nat), f < b ^ k → (∀ d ∈ ds, d < b) → numF b f ds < b ^ (k + ds.length)
  | [], f, k, h, _ => h
  | d :: ds, f, k, h, hd => by
    have h1 := hd d (by simp)
    have h2 : f * b + d < b ^ (k + 1) := by
      rw [Nat.pow_succ]
      have : (f + 1) * b ≤ b ^ k * b := Nat.mul_le_mul_right b h
      rw [Nat.add_mul, Nat.one_mul] at this
      omega
    have := numF_lt hb ds (f * b + d) (k + 1) h2 fun x hx => hd x (by simp [hx])
    rw [List.length_cons, show k + (ds.length + 1) = k + 1 + ds.length by omega]
    exact this
theorem numB_lt {b : Nat} (hb : 0 < b) {ds : List Nat} (hd : ∀ d ∈ ds, d < b) : numB b ds < b ^ ds.length := by
  have := numF_lt hb ds 0 0 (by simp) hd
  rwa [Nat.zero_add] at this
theorem digs_head {b : Nat} (hb : 2 ≤ b) : ∀ n, 0 < n → ∃ d ds, digs b n = d :: ds ∧ 0 < d ∧ b ^ ds.length ≤ n ∧ n < b ^ (ds.length + 1) := by
  intro n
  induction n using Nat.strongRecOn with
  | _ n ih =>
    intro z
    by_cases y : 0 < n / b
    · obtain ⟨d, ds, h1, h2, h3, h4⟩ := ih _ (Nat.div_lt_self z hb) y
      refine ⟨d, ds ++ [n % b], by rw [digs_pos hb z, h1]; rfl, h2, ?_, ?_⟩
      · rw [List.length_append, List.length_singleton, Nat.pow_succ]
        exact Nat.le_trans (Nat.mul_le_mul_right b h3) (Nat.div_mul_le_self n b)
      · rw [List.length_append, List.length_singleton, Nat.pow_succ]
        exact (Nat.div_lt_iff_lt_mul (by omega)).mp h4
    · have h0 : n / b = 0 := Nat.eq_zero_of_not_pos y
      have hlt : n < b := by
        rcases Nat.div_eq_zero_iff.mp h0 with h | h <;> omega
      refine ⟨n, [], ?_, z, (by simp; omega), (by simpa using hlt)⟩
      rw [digs_pos hb z, h0, digs_zero, Nat.mod_eq_of_lt hlt]
      rfl
theorem log_ltN {n k : Nat} (h : n < 2 ^ k) (hk : 0 < k) : n.log2 < k := by
  by_cases z : n = 0
  · rw [z]; simpa using hk
  · exact (Nat.log2_lt z).mpr h
theorem range_np (m : Nat) (hm : m ≤ 1000000000) (fs : AM) (e e' : Ev) (p p' : Pen) (h : fs e p = .ok [.int (m : Int)] e' p') : iRange1 fs e p = .ok (rangeD 0 m) e' p' := by
  unfold iRange1
  rw [h]
  show (if -1000000000 ≤ (m : Int) ∧ (m : Int) ≤ 1000000000 then _ else _) = _
  rw [if_pos (by omega)]
  rfl
theorem num_step {b f k d : Nat} (hf : f < b ^ k) (h1 : d < b) : f * b + d < b ^ (k + 1) := by
  rw [Nat.pow_succ]
  have : (f + 1) * b ≤ b ^ k * b := Nat.mul_le_mul_right b hf
  rw [Nat.add_mul, Nat.one_mul] at this
  omega
theorem log_pow4 {b f k : Nat} (hb : b ≤ 4) (hf : f < b ^ k) (hk : k ≤ 2000) : f.log2 < 5000 := by
  refine log_ltN ?_ (by decide)
  calc f < b ^ k := hf
    _ ≤ 4 ^ k := Nat.pow_le_pow_left hb k
    _ = 2 ^ (2 * k) := by rw [Nat.pow_mul]
    _ ≤ 2 ^ 5000 := Nat.pow_le_pow_right (by decide) (by omega)
theorem log_4 {b : Nat} (hb : b ≤ 4) : b.log2 < 3 := log_ltN (by show b < 8; omega) (by decide)
end Pd

namespace Pd
open PySem PySem.Spec L2
variable {e e1 e2 e3 : Ev} {p p1 p2 p3 : Pen} {d d1 d2 d3 : D}
theorem eVar_v {i : Nat} (h : e[i]? = some (some (.v d))) : eVar i e p = .ok d e p := by unfold eVar; rw [h]
theorem eLook_v {i : Nat} (h : e[i]? = some (some (.v d))) : eLook i e p = .ok d e p := by unfold eLook; rw [h]
theorem eVar_o {i : Nat} {xs : List D} (h : e[i]? = some (some (.own xs))) : eVar i e p = .ok (.lst xs) (e.set i (some (.v (.lst xs)))) p := by unfold eVar; rw [h]
theorem eLook_o {i : Nat} {xs : List D} (h : e[i]? = some (some (.own xs))) : eLook i e p = .ok (.lst xs) e p := by unfold eLook; rw [h]
theorem eC_ok : eC d e p = .ok d e p := rfl
theorem aNil_ok : aNil e p = .ok [] e p := rfl
theorem eBin_ok {g : D → D → Option D} {f f' : EM} (h1 : f e p = .ok d1 e1 p1) (h2 : f' e1 p1 = .ok d2 e2 p2) (h : g d1 d2 = some d) : eBin g f f' e p = .ok d e2 p2 := by
  unfold eBin
  rw [h1]
  dsimp only [Res.bind]
  rw [h2]
  dsimp only
  rw [h]
  rfl
theorem eUn_ok {g : D → Option D} {f : EM} (h1 : f e p = .ok d1 e1 p1) (h : g d1 = some d) : eUn g f e p = .ok d e1 p1 := by
  unfold eUn
  rw [h1]
  dsimp only [Res.bind]
  rw [h]
  rfl
theorem eF_ok {f : AM} {ds : List D} (h : f e p = .ok ds e1 p1) : eF f e p = .ok (.lst ds) e1 p1 := by
  unfold eF
  rw [h]
  rfl
theorem fLst_ok {f : AM} {ds : List D} (h : f e p = .ok ds e1 p1) (hl : ds.length ≤ 10000000) : fLst f e p = .ok ds e1 p1 := by
  unfold fLst
  rw [h]
  dsimp only [Res.bind]
  rw [if_pos hl]
theorem tmB_ok {f : EM} {c : Bool} (h : f e p = .ok (.bl c) e1 p1) : tmB f e p = .ok c e1 p1 := by
  unfold tmB
  rw [h]
  rfl
theorem tmE_ok {f : EM} {c : Bool} (h : f e p = .ok d e1 p1) (h2 : truD d = some c) : tmE f e p = .ok c e1 p1 := by
  unfold tmE
  rw [h]
  dsimp only [Res.bind]
  rw [h2]
  rfl
theorem tmNot_ok {t : TM} {c : Bool} (h : t e p = .ok c e1 p1) : tmNot t e p = .ok (!c) e1 p1 := by
  unfold tmNot
  rw [h]
  rfl
theorem tmAnd_t {s t : TM} {r : Res Bool} (h : s e p = .ok true e1 p1) (h2 : t e1 p1 = r) : tmAnd s t e p = r := by
  unfold tmAnd
  rw [h]
  exact h2
theorem tmAnd_f {s t : TM} (h : s e p = .ok false e1 p1) : tmAnd s t e p = .ok false e1 p1 := by
  unfold tmAnd
  rw [h]
  rfl
theorem tmOr_t {s t : TM} (h : s e p = .ok true e1 p1) : tmOr s t e p = .ok true e1 p1 := by
  unfold tmOr
  rw [h]
  rfl
theorem tmOr_f {s t : TM} {r : Res Bool} (h : s e p = .ok false e1 p1) (h2 : t e1 p1 = r) : tmOr s t e p = r := by
  unfold tmOr
  rw [h]
  exact h2
theorem eAnd_t {f f' : EM} {r : Res D} (h : f e p = .ok d e1 p1) (ht : truD d = some true) (h2 : f' e1 p1 = r) : eAnd f f' e p = r := by
  unfold eAnd
  rw [h]
  dsimp only [Res.bind]
  rw [ht]
  exact h2
theorem eAnd_f {f f' : EM} (h : f e p = .ok d e1 p1) (ht : truD d = some false) : eAnd f f' e p = .ok d e1 p1 := by
  unfold eAnd
  rw [h]
  dsimp only [Res.bind]
  rw [ht]
theorem eOr_t {f f' : EM} (h : f e p = .ok d e1 p1) (ht : truD d = some true) : eOr f f' e p = .ok d e1 p1 := by
  unfold eOr
  rw [h]
  dsimp only [Res.bind]
  rw [ht]
theorem eOr_f {f f' : EM} {r : Res D} (h : f e p = .ok d e1 p1) (ht : truD d = some false) (h2 : f' e1 p1 = r) : eOr f f' e p = r := by
  unfold eOr
  rw [h]
  dsimp only [Res.bind]
  rw [ht]
  exact h2
theorem eNot_ok {f : EM} {c : Bool} (h : f e p = .ok d e1 p1) (ht : truD d = some c) : eNot f e p = .ok (.bl (!c)) e1 p1 := by
  unfold eNot
  rw [h]
  dsimp only [Res.bind]
  rw [ht]
theorem eIsN_ok {f : EM} (h : f e p = .ok d e1 p1) : eIsN f e p = .ok (.bl (isN d)) e1 p1 := by
  unfold eIsN
  rw [h]
  rfl
theorem eNotN_ok {f : EM} (h : f e p = .ok d e1 p1) : eNotN f e p = .ok (.bl (!isN d)) e1 p1 := by
  unfold eNotN
  rw [h]
  rfl
theorem eIf_t {t : TM} {f f' : EM} {r : Res D} (h : t e p = .ok true e1 p1) (h2 : f e1 p1 = r) : eIf t f f' e p = r := by
  unfold eIf
  rw [h]
  exact h2
theorem eIf_f {t : TM} {f f' : EM} {r : Res D} (h : t e p = .ok false e1 p1) (h2 : f' e1 p1 = r) : eIf t f f' e p = r := by
  unfold eIf
  rw [h]
  exact h2
theorem eChain_t {g g' : D → D → Option D} {fa fb fc : EM} (h1 : fa e p = .ok d1 e1 p1) (h2 : fb e1 p1 = .ok d2 e2 p2) (h : g d1 d2 = some (.bl true)) (h3 : fc e2 p2 = .ok d3 e3 p3) (h' : g' d2 d3 = some d) : eChain g g' fa fb fc e p = .ok d e3 p3 := by
  unfold eChain
  rw [h1]
  dsimp only [Res.bind]
  rw [h2]
  dsimp only
  rw [h]
  dsimp only
  rw [h3]
  dsimp only
  rw [h']
  rfl
theorem eChain_f {g g' : D → D → Option D} {fa fb fc : EM} (h1 : fa e p = .ok d1 e1 p1) (h2 : fb e1 p1 = .ok d2 e2 p2) (h : g d1 d2 = some (.bl false)) : eChain g g' fa fb fc e p = .ok (.bl false) e2 p2 := by
  unfold eChain
  rw [h1]
  dsimp only [Res.bind]
  rw [h2]
  dsimp only
  rw [h]
theorem sAsg_ok {f : EM} {g : GM} (h : f e p = .ok d e1 p1) (hg : g d e1 = some e2) : sAsg f g e p = .nx e2 p1 := by
  unfold sAsg
  rw [h]
  dsimp only [toS]
  rw [hg]
theorem sOwn_ok {f : AM} {i : Nat} {ds : List D} (h : f e p = .ok ds e1 p1) : sOwn f i e p = .nx (e1.set i (some (.own ds))) p1 := by
  unfold sOwn
  rw [h]
  rfl
theorem sAppend_ok {j : Nat} {f : EM} {xs ys : List D} (h0 : e[j]? = some (some (.own ys))) (h : f e p = .ok d e1 p1) (h1 : e1[j]? = some (some (.own xs))) (hl : xs.length ≤ 10000000) : sAppend j f e p = .nx (e1.set j (some (.own (xs ++ [d])))) p1 := by
  unfold sAppend
  rw [h0]
  dsimp only
  rw [h]
  dsimp only [toS]
  rw [h1]
  dsimp only
  rw [if_pos hl]
theorem sFor_ok {it : AM} {g : GM} {body : SM} {ds : List D} {r : SR} (h : it e p = .ok ds e1 p1) (h2 : forGo g body ds e1 p1 = r) : sFor it g body e p = r := by
  unfold sFor
  rw [h]
  exact h2
theorem sExpr_ok {f : EM} (h : f e p = .ok d e1 p1) : sExpr f e p = .nx e1 p1 := by
  unfold sExpr
  rw [h]
  rfl
theorem iAny_l {f : EM} {xs : List D} (h : f e p = .ok (.lst xs) e1 p1) : iAny f e p = .ok xs e1 p1 := by
  unfold iAny
  rw [h]
  rfl
theorem iAny_t {f : EM} {xs : List D} (h : f e p = .ok (.tup xs) e1 p1) : iAny f e p = .ok xs e1 p1 := by
  unfold iAny
  rw [h]
  rfl
theorem sRaise_ok {c : Str} {ns : List Str} {f : AM} {ds : List D} (h : f e p = .ok ds e1 p1) (hl : ds.length = ns.length) : sRaise c ns f e p = .exc ⟨c, ns.zip ds⟩ e1 p1 := by
  unfold sRaise
  rw [h]
  dsimp only [toS]
  rw [if_pos hl]
theorem bl_of {q : Prop} [Decidable q] {c : Bool} (h : decide q = c) : some (D.bl (decide q)) = some (.bl c) := by rw [h]
theorem gt_t {i j : Int} (h : j < i) : gtD (.int i) (.int j) = some (.bl true) := bl_of (decide_eq_true h)
theorem gt_f {i j : Int} (h : ¬ j < i) : gtD (.int i) (.int j) = some (.bl false) := bl_of (decide_eq_false h)
theorem lt_t {i j : Int} (h : i < j) : ltD (.int i) (.int j) = some (.bl true) := bl_of (decide_eq_true h)
theorem lt_f {i j : Int} (h : ¬ i < j) : ltD (.int i) (.int j) = some (.bl false) := bl_of (decide_eq_false h)
theorem le_t {i j : Int} (h : i ≤ j) : leD (.int i) (.int j) = some (.bl true) := bl_of (decide_eq_true h)
theorem le_f {i j : Int} (h : ¬ i ≤ j) : leD (.int i) (.int j) = some (.bl false) := bl_of (decide_eq_false h)
theorem ge_t {i j : Int} (h : j ≤ i) : geD (.int i) (.int j) = some (.bl true) := bl_of (decide_eq_true h)
theorem ge_f {i j : Int} (h : ¬ j ≤ i) : geD (.int i) (.int j) = some (.bl false) := bl_of (decide_eq_false h)
theorem eq_t (i : Int) : eqD (.int i) (.int i) = some (.bl true) := by
  show some (D.bl (i == i)) = _
  rw [beq_self_eq_true]
theorem eq_f {i j : Int} (h : i ≠ j) : eqD (.int i) (.int j) = some (.bl false) := by
  show some (D.bl (i == j)) = _
  rw [beq_false_of_ne h]
theorem ne_f (i : Int) : neD (.int i) (.int i) = some (.bl false) := by
  show some (D.bl (!(i == i))) = _
  rw [beq_self_eq_true]
  rfl
theorem ne_t {i j : Int} (h : i ≠ j) : neD (.int i) (.int j) = some (.bl true) := by
  show some (D.bl (!(i == j))) = _
  rw [beq_false_of_ne h]
  rfl
end Pd

namespace Pd
open PySem PySem.Spec L2
theorem compGo_gen {α : Type} {g : GM} {t : TM} {f : EM} {eb : Ev} {p : Pen} {I G : α → D} : ∀ {xs : List α}, (∀ x ∈ xs, ∃ e1, g (I x) eb = some e1 ∧ ∃ e2, t e1 p = .ok true e2 p ∧ ∃ e3, f e2 p = .ok (G x) e3 p) → compGo g t f eb (xs.map I) p = some (xs.map G, p)
  | [], _ => rfl
  | x :: xs, h => by
    obtain ⟨e1, h1, e2, h2, e3, h3⟩ := h x (by simp)
    have ih := compGo_gen (xs := xs) fun y hy => h y (by simp [hy])
    rw [List.map_cons]
    unfold compGo
    rw [h1]
    dsimp only
    rw [h2]
    dsimp only
    rw [h3]
    dsimp only
    rw [ih]
    rfl
theorem fComp_gen {α : Type} {js : List Nat} {it : AM} {vs : List Nat} {g : GM} {t : TM} {f : EM} {e e' : Ev} {p : Pen} (I G : α → D) {xs : List α}
    (h1 : it (freeze js e) p = .ok (xs.map I) e' p) (h2 : xs.length ≤ 10000000)
    (h3 : ∀ x ∈ xs, ∃ e1, g (I x) (mask vs e') = some e1 ∧ ∃ e2, t e1 p = .ok true e2 p ∧ ∃ e3, f e2 p = .ok (G x) e3 p) :
    fComp js it vs g t f e p = .ok (xs.map G) e' p := by
  unfold fComp
  rw [h1]
  show (if small (xs.map I).length then _ else _) = _
  rw [if_pos (by rw [List.length_map]; exact h2), compGo_gen h3]
theorem compGo_fil {α : Type} {g : GM} {t : TM} {f : EM} {eb : Ev} {p : Pen} {I G : α → D} {c : α → Bool} : ∀ {xs : List α}, (∀ x ∈ xs, ∃ e1, g (I x) eb = some e1 ∧ ∃ e2, t e1 p = .ok (c x) e2 p ∧ (c x = true → ∃ e3, f e2 p = .ok (G x) e3 p)) → compGo g t f eb (xs.map I) p = some ((xs.filter c).map G, p)
  | [], _ => rfl
  | x :: xs, h => by
    obtain ⟨e1, h1, e2, h2, h3⟩ := h x (by simp)
    have ih := compGo_fil (xs := xs) (c := c) fun y hy => h y (by simp [hy])
    rw [List.map_cons, List.filter_cons]
    unfold compGo
    rw [h1]
    dsimp only
    rw [h2]
    cases z : c x with
    | true =>
      obtain ⟨e3, h3⟩ := h3 z
      dsimp only
      rw [h3]
      dsimp only
      rw [ih]
      rfl
    | false =>
      dsimp only
      rw [ih]
      rfl
theorem fComp_fil {α : Type} {js : List Nat} {it : AM} {vs : List Nat} {g : GM} {t : TM} {f : EM} {e e' : Ev} {p : Pen} (I G : α → D) (c : α → Bool) {xs : List α}
    (h1 : it (freeze js e) p = .ok (xs.map I) e' p) (h2 : xs.length ≤ 10000000)
    (h3 : ∀ x ∈ xs, ∃ e1, g (I x) (mask vs e') = some e1 ∧ ∃ e2, t e1 p = .ok (c x) e2 p ∧ (c x = true → ∃ e3, f e2 p = .ok (G x) e3 p)) :
    fComp js it vs g t f e p = .ok ((xs.filter c).map G) e' p := by
  unfold fComp
  rw [h1]
  show (if small (xs.map I).length then _ else _) = _
  rw [if_pos (by rw [List.length_map]; exact h2), compGo_fil h3]
abbrev rgI (k : Nat) : D := .int ((0 : Int) + (k : Int))
theorem range_g (m : Nat) (hm : m ≤ 1000000000) {f : EM} {e e' : Ev} {p p' : Pen} (h : f e p = .ok (.int (m : Int)) e' p') : iRange1 (aCons f aNil) e p = .ok ((List.range m).map rgI) e' p' := range_np m hm _ _ _ _ _ (aCons_ok h aNil_ok)
theorem rI_eq (k : Nat) : rgI k = .int (k : Int) := by
  show D.int ((0 : Int) + (k : Int)) = _
  rw [Int.zero_add]
theorem rI_fun : rgI = fun k : Nat => .int (k : Int) := funext rI_eq
theorem range_n2 (m : Nat) (hm : m ≤ 1000000000) {f : EM} {e e' : Ev} {p p' : Pen} (h : f e p = .ok (.int (m : Int)) e' p') : iRange1 (aCons f aNil) e p = .ok ((List.range m).map fun k : Nat => .int (k : Int)) e' p' := by
  rw [range_g m hm h, rI_fun]
theorem forGo_rt {g : GM} {body : SM} {x d : D} {xs : List D} {e e1 e2 : Ev} {p p2 : Pen} (h1 : g x e = some e1) (h2 : body e1 p = .rt d e2 p2) : forGo g body (x :: xs) e p = .rt d e2 p2 := by
  unfold forGo
  rw [h1]
  dsimp only
  rw [h2]
theorem enumD_len (xs : List D) : (enumD xs).length = xs.length := by simp [enumD]
theorem enumD_map {α : Type} (f : α → D) (xs : List α) : enumD (xs.map f) = xs.zipIdx.map fun q => .tup [.int (q.2 : Nat), f q.1] := by
  unfold enumD
  apply List.ext_getElem?
  intro i
  simp only [List.getElem?_map, List.getElem?_zipIdx]
  cases xs[i]? <;> rfl
theorem rows?_map (ns : List (List Int)) : rows? (ns.map rowI) = some ns := by
  induction ns with
  | nil => rfl
  | cons n ns ih =>
    show (ints? (n.map D.int)).bind (fun k => (rows? (ns.map rowI)).map (k :: ·)) = _
    rw [ints?_map, ih]
    rfl
theorem ne_nil_t {xs : List D} (h : xs ≠ []) (hp : (D.lst xs).pl 12 = true) : neD (.lst xs) (.lst []) = some (.bl true) := by
  unfold neD
  rw [if_pos ⟨hp, rfl⟩]
  cases xs with
  | nil => exact absurd rfl h
  | cons x xs => rfl
theorem ne_nil_f : neD (.lst []) (.lst []) = some (.bl false) := rfl
theorem pl_lst {n : Nat} {xs : List D} (h : ∀ x ∈ xs, x.pl n = true) : (D.lst xs).pl (n + 1) = true := by
  unfold D.pl
  exact List.all_eq_true.mpr h
theorem inD_lst {x : D} {ys : List D} (hx : x.pl 10 = true) (hy : ∀ y ∈ ys, y.pl 10 = true) : inD2 x (.lst ys) = some (.bl (ys.any fun z => D.beq z x)) := by
  have e : inD2 x (.lst ys) = inD x (.lst ys) := by cases x <;> rfl
  rw [e]
  have e2 : inD x (.lst ys) = if x.pl 10 = true ∧ ys.all (D.pl 10) = true then some (.bl (ys.any fun z => D.beq z x)) else none := by cases x <;> rfl
  rw [e2, if_pos ⟨hx, List.all_eq_true.mpr hy⟩]
theorem notIn_lst {x : D} {ys : List D} (hx : x.pl 10 = true) (hy : ∀ y ∈ ys, y.pl 10 = true) : notInD2 x (.lst ys) = some (.bl (!(ys.any fun z => D.beq z x))) := by
  unfold notInD2
  rw [inD_lst hx hy]
  rfl
theorem ePop_ok {j r : Nat} {f : EM} {e e1 : Ev} {p p1 : Pen} {xs ys : List D} {y : D} (h0 : e[j]? = some (some (.own ys))) (h : f e p = .ok (.int (r : Int)) e1 p1) (h1 : e1[j]? = some (some (.own xs))) (hr : r < 1000000) (hy : xs[r]? = some y) : ePop j f e p = .ok y (e1.set j (some (.own (xs.eraseIdx r)))) p1 := by
  unfold ePop
  rw [h0]
  dsimp only
  rw [h]
  simp only [Res.bind]
  rw [h1]
  dsimp only
  rw [if_pos ⟨by omega, by omega⟩, Int.toNat_natCast, hy]
theorem perm_erase {α : Type} : ∀ {l : List α} {i : Nat} {x : α}, l[i]? = some x → (x :: l.eraseIdx i).Perm l
  | [], _, _, h => by simp at h
  | a :: l, 0, x, h => by
    simp at h
    subst h
    exact .refl _
  | a :: l, i + 1, x, h => by
    have h : l[i]? = some x := by simpa using h
    rw [List.eraseIdx_cons_succ]
    exact (List.Perm.swap a x _).trans ((perm_erase h).cons a)
theorem map_erase {α β : Type} (f : α → β) : ∀ (l : List α) (i : Nat), (l.map f).eraseIdx i = (l.eraseIdx i).map f
  | [], _ => rfl
  | a :: l, 0 => rfl
  | a :: l, i + 1 => by
    rw [List.map_cons, List.eraseIdx_cons_succ, List.eraseIdx_cons_succ, List.map_cons, map_erase f l i]
theorem eIsN_c {f : EM} {e e1 : Ev} {p p1 : Pen} {d : D} {c : Bool} (h : f e p = .ok d e1 p1) (hc : isN d = c) : eIsN f e p = .ok (.bl c) e1 p1 := by rw [← hc]; exact eIsN_ok h
theorem eNotN_c {f : EM} {e e1 : Ev} {p p1 : Pen} {d : D} {c : Bool} (h : f e p = .ok d e1 p1) (hc : (!isN d) = c) : eNotN f e p = .ok (.bl c) e1 p1 := by rw [← hc]; exact eNotN_ok h
theorem sPar_ok {f g : EM} {e e1 e2 : Ev} {p p1 p2 : Pen} {a b : D} {i j : Nat} (h1 : f e p = .ok a e1 p1) (h2 : g e1 p1 = .ok b e2 p2) : sPar f g i j e p = .nx ((e2.set i (some (.v a))).set j (some (.v b))) p2 := by
  unfold sPar
  rw [h1]
  dsimp only [toS]
  rw [h2]
theorem eCmpO_ok {cs : Cs} {T : List (Str × Fn)} {neg : Bool} {f g : EM} {e e1 e2 e3 : Ev} {p p1 p2 p3 : Pen} {a b d : D} (h1 : f e p = .ok a e1 p1) (h2 : g e1 p1 = .ok b e2 p2) (h : cmpO cs T neg a b e2 p2 = .ok d e3 p3) : eCmpO cs T neg f g e p = .ok d e3 p3 := by
  unfold eCmpO
  rw [h1]
  simp only [Res.bind]
  rw [h2]
  exact h
theorem o_mul60 {n b : Nat} (hn : n < 2 ^ 60) (hb : b ≤ 4) : mulD3 (.int (n : Int)) (.int (b : Int)) = some (.int ((n * b : Nat) : Int)) := by
  show (if ((n : Int)).natAbs.log2 + ((b : Int)).natAbs.log2 < 1000000 then some (D.int ((n : Int) * (b : Int))) else none) = _
  have h1 := log_ltN hn (by decide)
  have h2 := log_4 hb
  rw [if_pos (by simp only [Int.natAbs_natCast]; omega)]
  rfl
theorem compGo2_flat {g : GM} {t : TM} {it1 : AM} {vs1 : List Nat} {g1 : GM} {t1 : TM} {f : EM} {eb : Ev} {p : Pen} {F : D → List D} : ∀ (xs : List D), (∀ x ∈ xs, ∃ e1 e2 ds e3, g x eb = some e1 ∧ t e1 p = .ok true e2 p ∧ it1 e2 p = .ok ds e3 p ∧ compGo g1 t1 f (mask vs1 e3) ds p = some (F x, p)) →
    compGo2 g t it1 vs1 g1 t1 f eb xs p = some (xs.flatMap F, p)
  | [], _ => rfl
  | x :: xs, h => by
    obtain ⟨e1, e2, ds, e3, h1, h2, h3, h4⟩ := h x (by simp)
    have ih := compGo2_flat (F := F) xs fun y hy => h y (by simp [hy])
    unfold compGo2
    rw [h1]
    dsimp only
    rw [h2]
    dsimp only
    rw [h3]
    dsimp only
    rw [h4]
    dsimp only
    rw [ih]
    rfl

theorem o_mulB {m n : Nat} (hm : m < 2 ^ 60) (hn : n < 2 ^ 60) : mulD3 (.int (m : Int)) (.int (n : Int)) = some (.int ((m * n : Nat) : Int)) := by
  show (if ((m : Int)).natAbs.log2 + ((n : Int)).natAbs.log2 < 1000000 then some (D.int ((m : Int) * (n : Int))) else none) = _
  have h1 := log_ltN hm (by decide)
  have h2 := log_ltN hn (by decide)
  rw [if_pos (by simp only [Int.natAbs_natCast]; omega)]
  rfl
inductive SeqD (ys : List D) : D → Prop
  | lst : SeqD ys (.lst ys)
  | tup : SeqD ys (.tup ys)
theorem SeqD.any {ys : List D} {d : D} (h : SeqD ys d) {f : EM} {e e' : Ev} {p p' : Pen} (hf : f e p = .ok d e' p') : iAny f e p = .ok ys e' p' := by
  unfold iAny
  rw [hf]
  cases h <;> rfl
theorem SeqD.len {ys : List D} {d : D} (h : SeqD ys d) : lenD d = some (.int (ys.length : Int)) := by cases h <;> rfl
theorem SeqD.tupD {ys : List D} {d : D} (h : SeqD ys d) : tupleD d = some (.tup ys) := by cases h <;> rfl
theorem SeqD.listF {ys : List D} {d : D} (h : SeqD ys d) {f : EM} {e e' : Ev} {p p' : Pen} (hf : f e p = .ok d e' p') : fList f e p = .ok ys e' p' := by
  unfold fList
  rw [hf]
  cases h <;> rfl
theorem SeqD.isi {ys : List D} {d : D} (h : SeqD ys d) : isiD2 "list" "tuple" d = some (.bl true) := by cases h <;> kernel_rfl
theorem beq_refl : ∀ (n : Nat) (d : D), d.pl n = true → D.beq d d = true := by
  have lists : ∀ (xs : List D), (∀ x ∈ xs, D.beq x x = true) → D.beqs xs xs = true := by
    intro xs
    induction xs with
    | nil => intro _; rfl
    | cons x xs ih =>
      intro h
      show (D.beq x x && D.beqs xs xs) = true
      rw [h x (by simp), ih fun y hy => h y (by simp [hy])]
      rfl
  intro n
  induction n with
  | zero =>
    intro d h
    cases d <;> first | rfl | (show (_ == _) = true; exact beq_self_eq_true _) | (exact absurd h (by simp [D.pl]))
  | succ n ih =>
    intro d h
    cases d with
    | tup xs => exact lists xs fun x hx => ih x (List.all_eq_true.mp (show xs.all (D.pl n) = true from h) x hx)
    | lst xs => exact lists xs fun x hx => ih x (List.all_eq_true.mp (show xs.all (D.pl n) = true from h) x hx)
    | _ => first | rfl | (show (_ == _) = true; exact beq_self_eq_true _) | (exact absurd h (by simp [D.pl]))
theorem ne_self {d : D} (h : d.pl 12 = true) : neD d d = some (.bl false) := by
  unfold neD
  rw [if_pos ⟨h, h⟩, beq_refl 12 d h]
  rfl
theorem eq_self {d : D} (h : d.pl 12 = true) : eqD d d = some (.bl true) := by
  unfold eqD
  rw [if_pos ⟨h, h⟩, beq_refl 12 d h]
theorem pl_tup {n : Nat} {xs : List D} (h : ∀ x ∈ xs, x.pl n = true) : (D.tup xs).pl (n + 1) = true := by
  unfold D.pl
  exact List.all_eq_true.mpr h
theorem pl_int (n : Nat) (i : Int) : (D.int i).pl n = true := by cases n <;> rfl
theorem pl_nat (n : Nat) (l : List Nat) : (D.tup (nInts l)).pl (n + 1) = true := pl_tup fun x hx => by
  obtain ⟨k, _, rfl⟩ := List.mem_map.mp hx
  exact pl_int n _
end Pd

set_option maxHeartbeats 8000000
namespace K09
open PySem PySem.Spec L2 Pd PyProof.Rows
def topS (i : Nat) : Stmt := PySem.Challenge.pw_digitsaid_k09_whole_machines_and_numbers.main.body.getD i (.Pass ⟨0, 0, 0, 0⟩)
abbrev s_is_integer : Stmt := topS 9
abbrev s_is_count : Stmt := topS 10
abbrev s_is_row : Stmt := topS 11
abbrev s_power_of : Stmt := topS 12
abbrev s_is_base : Stmt := topS 15
abbrev s_need_base : Stmt := topS 16
abbrev s_digits_by : Stmt := topS 17
abbrev s_number_by : Stmt := topS 18
abbrev s_read_side_by_side : Stmt := topS 19
abbrev s_columns_of : Stmt := topS 20
abbrev s_is_name : Stmt := topS 26
abbrev s_are_letters : Stmt := topS 30
abbrev s_are_ends : Stmt := topS 31
abbrev s_are_steps : Stmt := topS 32
abbrev s_machine_breach : Stmt := topS 33
abbrev s_need_machine : Stmt := topS 35
abbrev s_reached_state : Stmt := topS 36
abbrev s_accepts_writing : Stmt := topS 37
abbrev s_are_numbers : Stmt := topS 38
abbrev s_takes_numbers : Stmt := topS 39
abbrev s_accepts : Stmt := topS 40
abbrev s__law_pen : Stmt := topS 42
abbrev s__law_draw : Stmt := topS 43
abbrev s__law_pick : Stmt := topS 44
abbrev s__law_shuffled : Stmt := topS 45
abbrev s__law_listed : Stmt := topS 46
abbrev s__law_is_truth : Stmt := topS 47
abbrev s__law_digits : Stmt := topS 48
abbrev s__law_columns : Stmt := topS 49
abbrev s__law_led : Stmt := topS 50
abbrev s__law_is_taken : Stmt := topS 51
abbrev s__law_drawn : Stmt := topS 52
abbrev s__law_frame : Stmt := topS 53
abbrev s__law_complaint : Stmt := topS 54
abbrev s_law : Stmt := topS 55
abbrev s_Machine_init : Stmt := Pd.clsStmt (topS 34) 0
abbrev s_Machine_eq : Stmt := Pd.clsStmt (topS 34) 1
abbrev cs : Cs := [("Machine", ["base", "letters", "ends", "steps", "many"])]
structure Cst (P : Program) (w : World) (K : PySem.W.Frag) (mg : Str → Option Value) : Prop where
  m_len : mg "len" = none
  m_tuple : mg "tuple" = none
  m_list : mg "list" = none
  m_isinstance : mg "isinstance" = none
  m_int : mg "int" = none
  m_bool : mg "bool" = none
  m_str : mg "str" = none
  m_all : mg "all" = none
  m_any : mg "any" = none
  m_sum : mg "sum" = none
  m_max : mg "max" = none
  m_min : mg "min" = none
  m_abs : mg "abs" = none
  m_range : mg "range" = none
  m_enumerate : mg "enumerate" = none
  m_zip : mg "zip" = none
  m_repr : mg "repr" = none
  m_sorted : mg "sorted" = none
  m_set : mg "set" = none
  m_dict : mg "dict" = none
  m_super : mg "super" = none
  c_MOST_BASE : ∃ t, mg "MOST_BASE" = some (.int (4) t)
  c_SMALL : ∃ t, mg "SMALL" = some (.str "abcdefghijklmnopqrstuvwxyz" t)
  c_FIGURES : ∃ t, mg "FIGURES" = some (.str "0123456789" t)
  c_LONGEST : ∃ t, mg "LONGEST" = some (.int (8) t)
  c_WORDS : KTup K mg "WORDS" [.str "base", .str "word", .str "from", .str "to", .str "as", .str "letters", .str "shows", .str "all", .str "some", .str "endless", .str "not", .str "and", .str "or", .str "implies", .str "iff"]
  c_MOST_COLUMNS : ∃ t, mg "MOST_COLUMNS" = some (.int (32) t)
  c_MOST_STATES : ∃ t, mg "MOST_STATES" = some (.int (300) t)
  x_BadRow : ∃ C fI cc cda, PdX.Xt P K mg "BadRow" C fI cc cda ["value"] ∧ PdX.Initd P w K mg C fI ["value"]
  x_BadItem : ∃ C fI cc cda, PdX.Xt P K mg "BadItem" C fI cc cda ["value"] ∧ PdX.Initd P w K mg C fI ["value"]
  x_BadBase : ∃ C fI cc cda, PdX.Xt P K mg "BadBase" C fI cc cda ["value"] ∧ PdX.Initd P w K mg C fI ["value"]
  x_BadMachine : ∃ C fI cc cda, PdX.Xt P K mg "BadMachine" C fI cc cda ["why"] ∧ PdX.Initd P w K mg C fI ["why"]
  x_BadNumbers : ∃ C fI cc cda, PdX.Xt P K mg "BadNumbers" C fI cc cda ["value"] ∧ PdX.Initd P w K mg C fI ["value"]
  x_BadWriting : ∃ C fI cc cda, PdX.Xt P K mg "BadWriting" C fI cc cda ["value"] ∧ PdX.Initd P w K mg C fI ["value"]
  T : CTs K mg cs
  e_BadRow_BadItem : ∀ a b, mg "BadRow" = some (.ref a) → mg "BadItem" = some (.ref b) → PySem.W.exmOne K (.ref a) (.ref b) = some false
  e_BadItem_BadItem : ∀ a b, mg "BadItem" = some (.ref a) → mg "BadItem" = some (.ref b) → PySem.W.exmOne K (.ref a) (.ref b) = some true
  e_BadBase_BadItem : ∀ a b, mg "BadBase" = some (.ref a) → mg "BadItem" = some (.ref b) → PySem.W.exmOne K (.ref a) (.ref b) = some false
  e_BadMachine_BadItem : ∀ a b, mg "BadMachine" = some (.ref a) → mg "BadItem" = some (.ref b) → PySem.W.exmOne K (.ref a) (.ref b) = some false
  e_BadNumbers_BadItem : ∀ a b, mg "BadNumbers" = some (.ref a) → mg "BadItem" = some (.ref b) → PySem.W.exmOne K (.ref a) (.ref b) = some false
  e_BadWriting_BadItem : ∀ a b, mg "BadWriting" = some (.ref a) → mg "BadItem" = some (.ref b) → PySem.W.exmOne K (.ref a) (.ref b) = some false
  e_BadRow_BadMachine : ∀ a b, mg "BadRow" = some (.ref a) → mg "BadMachine" = some (.ref b) → PySem.W.exmOne K (.ref a) (.ref b) = some false
  e_BadItem_BadMachine : ∀ a b, mg "BadItem" = some (.ref a) → mg "BadMachine" = some (.ref b) → PySem.W.exmOne K (.ref a) (.ref b) = some false
  e_BadBase_BadMachine : ∀ a b, mg "BadBase" = some (.ref a) → mg "BadMachine" = some (.ref b) → PySem.W.exmOne K (.ref a) (.ref b) = some false
  e_BadMachine_BadMachine : ∀ a b, mg "BadMachine" = some (.ref a) → mg "BadMachine" = some (.ref b) → PySem.W.exmOne K (.ref a) (.ref b) = some true
  e_BadNumbers_BadMachine : ∀ a b, mg "BadNumbers" = some (.ref a) → mg "BadMachine" = some (.ref b) → PySem.W.exmOne K (.ref a) (.ref b) = some false
  e_BadWriting_BadMachine : ∀ a b, mg "BadWriting" = some (.ref a) → mg "BadMachine" = some (.ref b) → PySem.W.exmOne K (.ref a) (.ref b) = some false
  e_BadRow_BadNumbers : ∀ a b, mg "BadRow" = some (.ref a) → mg "BadNumbers" = some (.ref b) → PySem.W.exmOne K (.ref a) (.ref b) = some false
  e_BadItem_BadNumbers : ∀ a b, mg "BadItem" = some (.ref a) → mg "BadNumbers" = some (.ref b) → PySem.W.exmOne K (.ref a) (.ref b) = some false
  e_BadBase_BadNumbers : ∀ a b, mg "BadBase" = some (.ref a) → mg "BadNumbers" = some (.ref b) → PySem.W.exmOne K (.ref a) (.ref b) = some false
  e_BadMachine_BadNumbers : ∀ a b, mg "BadMachine" = some (.ref a) → mg "BadNumbers" = some (.ref b) → PySem.W.exmOne K (.ref a) (.ref b) = some false
  e_BadNumbers_BadNumbers : ∀ a b, mg "BadNumbers" = some (.ref a) → mg "BadNumbers" = some (.ref b) → PySem.W.exmOne K (.ref a) (.ref b) = some true
  e_BadWriting_BadNumbers : ∀ a b, mg "BadWriting" = some (.ref a) → mg "BadNumbers" = some (.ref b) → PySem.W.exmOne K (.ref a) (.ref b) = some false
  e_BadRow_BadWriting : ∀ a b, mg "BadRow" = some (.ref a) → mg "BadWriting" = some (.ref b) → PySem.W.exmOne K (.ref a) (.ref b) = some false
  e_BadItem_BadWriting : ∀ a b, mg "BadItem" = some (.ref a) → mg "BadWriting" = some (.ref b) → PySem.W.exmOne K (.ref a) (.ref b) = some false
  e_BadBase_BadWriting : ∀ a b, mg "BadBase" = some (.ref a) → mg "BadWriting" = some (.ref b) → PySem.W.exmOne K (.ref a) (.ref b) = some false
  e_BadMachine_BadWriting : ∀ a b, mg "BadMachine" = some (.ref a) → mg "BadWriting" = some (.ref b) → PySem.W.exmOne K (.ref a) (.ref b) = some false
  e_BadNumbers_BadWriting : ∀ a b, mg "BadNumbers" = some (.ref a) → mg "BadWriting" = some (.ref b) → PySem.W.exmOne K (.ref a) (.ref b) = some false
  e_BadWriting_BadWriting : ∀ a b, mg "BadWriting" = some (.ref a) → mg "BadWriting" = some (.ref b) → PySem.W.exmOne K (.ref a) (.ref b) = some true
noncomputable section
variable {P : Program} {w : World} {K : PySem.W.Frag} {mg : Str → Option Value} {base : Heap}
def B_is_integer : SM := sRet (eAnd (eUn (isiD "int") (eLook 0)) (eNot (eUn (isiD "bool") (eLook 0))))
def F_is_integer : Fn := mkF 1 B_is_integer
theorem sc_is_integer : FnScope ["value"] ["value"] (defScope s_is_integer) := ⟨rfl, rfl, rfl, by decide +kernel, rfl, by decide +kernel, by decide +kernel⟩
theorem own_is_integer (C : Cst P w K mg) (D : DefAt K mg "is_integer" s_is_integer []) : Own P w K mg base 1 "is_integer" ["value"] F_is_integer [] := by
  obtain ⟨f, fd, F, hm⟩ := D
  have nd : (["value"] : List Str).Nodup := sc_is_integer.nd
  refine ⟨rfl, f, fd, ok_fnD (k := 0) (N := ["value"]) (ps := ["value"]) (sm := B_is_integer) F sc_is_integer (fun cdv A outer s H E hr => ?_), hm, F.kp, fun j hj => ?_⟩
  · have tk : Takes (cxOf (L2.CX P w) P w K mg base ["value"] "is_integer" (defScope s_is_integer) f cdv A outer s H E) (fun cls d _ H => E cls d H) := takes_of rfl rfl rfl rfl
    exact (dss_one (ds_ret (de_and (de_isi (by rfl) C.m_isinstance Pd.boot_isinstance (by rfl) C.m_int Pd.boot_int (dq_var 0)) (de_one (de_not (de_isi (by rfl) C.m_isinstance Pd.boot_isinstance (by rfl) C.m_bool Pd.boot_bool (dq_var 0)))))))
  · exact by
      obtain rfl : j = 0 := by simpa using hj
      exact ⟨[], .nil, F.bindsN fun kV doc pm an cdv ct us hl => match us, hl with | [_], _ => rfl⟩
def B_is_row : SM := sRet (eUn (isiD2 "list" "tuple") (eLook 0))
def F_is_row : Fn := mkF 1 B_is_row
theorem sc_is_row : FnScope ["value"] ["value"] (defScope s_is_row) := ⟨rfl, rfl, rfl, by decide +kernel, rfl, by decide +kernel, by decide +kernel⟩
theorem own_is_row (C : Cst P w K mg) (D : DefAt K mg "is_row" s_is_row []) : Own P w K mg base 1 "is_row" ["value"] F_is_row [] := by
  obtain ⟨f, fd, F, hm⟩ := D
  have nd : (["value"] : List Str).Nodup := sc_is_row.nd
  refine ⟨rfl, f, fd, ok_fnD (k := 0) (N := ["value"]) (ps := ["value"]) (sm := B_is_row) F sc_is_row (fun cdv A outer s H E hr => ?_), hm, F.kp, fun j hj => ?_⟩
  · have tk : Takes (cxOf (L2.CX P w) P w K mg base ["value"] "is_row" (defScope s_is_row) f cdv A outer s H E) (fun cls d _ H => E cls d H) := takes_of rfl rfl rfl rfl
    exact (dss_one (ds_ret (de_isi2 (by rfl) C.m_isinstance Pd.boot_isinstance (by rfl) C.m_list Pd.boot_list (by rfl) C.m_tuple Pd.boot_tuple (dq_var 0))))
  · exact by
      obtain rfl : j = 0 := by simpa using hj
      exact ⟨[], .nil, F.bindsN fun kV doc pm an cdv ct us hl => match us, hl with | [_], _ => rfl⟩
def B_power_of : SM := sSeq (sAsg (eC (.int 1)) (gN 2))
    (sSeq (sWhile (tmB (eBin gtD (eVar 1) (eC (.int 0)))) (sSeq (sIf (tmB (eBin eqD (eBin andD (eVar 1) (eC (.int 1))) (eC (.int 1)))) (sAsg (eBin mulD3 (eVar 2) (eLook 0)) (gN 2)) (sNext))
    (sSeq (sAsg (eBin shrD (eVar 1) (eC (.int 1))) (gN 1))
    (sIf (tmB (eBin gtD (eVar 1) (eC (.int 0)))) (sAsg (eBin mulD3 (eVar 0) (eLook 0)) (gN 0)) (sNext)))))
    (sRet (eVar 2)))
def F_power_of : Fn := mkF 3 B_power_of
theorem sc_power_of : FnScope ["base", "k", "result"] ["base", "k"] (defScope s_power_of) := ⟨rfl, rfl, rfl, by decide +kernel, rfl, by decide +kernel, by decide +kernel⟩
theorem own_power_of (C : Cst P w K mg) (D : DefAt K mg "power_of" s_power_of []) : Own P w K mg base 1 "power_of" ["base", "k"] F_power_of [] := by
  obtain ⟨f, fd, F, hm⟩ := D
  have nd : (["base", "k", "result"] : List Str).Nodup := sc_power_of.nd
  refine ⟨rfl, f, fd, ok_fnD (k := 0) (N := ["base", "k", "result"]) (ps := ["base", "k"]) (sm := B_power_of) F sc_power_of (fun cdv A outer s H E hr => ?_), hm, F.kp, fun j hj => ?_⟩
  · have tk : Takes (cxOf (L2.CX P w) P w K mg base ["base", "k", "result"] "power_of" (defScope s_power_of) f cdv A outer s H E) (fun cls d _ H => E cls d H) := takes_of rfl rfl rfl rfl
    exact (dss_cons (ds_set (i := 2) nd de_int)
    (dss_cons (ds_while (L2.passes_of rfl) (dt_cmp op_gt l_gt (de_var 1) de_int.q) (dss_cons (ds_if (dt_cmp (op_eqD hr.units) l_eq (de_bin op_andM l_and (de_var 1) de_int.q) de_int.q) (dss_one (ds_set (i := 2) nd (de_bin op_mul4 l_mul3 (de_var 2) (dq_var 0)))) dss_nil)
    (dss_cons (ds_set (i := 1) nd (de_bin op_shr l_shr (de_var 1) de_int.q))
    (dss_one (ds_if (dt_cmp op_gt l_gt (de_var 1) de_int.q) (dss_one (ds_set (i := 0) nd (de_bin op_mul4 l_mul3 (de_var 0) (dq_var 0)))) dss_nil)))))
    (dss_one (ds_ret (de_var 2)))))
  · exact by
      obtain rfl : j = 0 := by simpa using hj
      exact ⟨[], .nil, F.bindsN fun kV doc pm an cdv ct us hl => match us, hl with | [_, _], _ => rfl⟩
def B_is_name : SM := sSeq (sIf (tmOr (tmNot (tmE (eUn (isiD "str") (eLook 0)))) (tmOr (tmNot (tmB (eChain leD leD (eC (.int 1)) (eUn lenD (eLook 0)) (eC (.int 8))))) (tmOr (tmB (eBin notInD2 (eBin ixD (eVar 0) (eC (.int 0))) (eC (.str "abcdefghijklmnopqrstuvwxyz")))) (tmB (eUn (inK false [.str "base", .str "word", .str "from", .str "to", .str "as", .str "letters", .str "shows", .str "all", .str "some", .str "endless", .str "not", .str "and", .str "or", .str "implies", .str "iff"]) (eVar 0)))))) (sRet (eC (.bl false))) (sNext))
    (sRet (eUn allD (eF (fComp [] (iAny (eVar 0)) [1] (gN 1) (tmYes) (eOr (eBin inD2 (eVar 1) (eC (.str "abcdefghijklmnopqrstuvwxyz"))) (eBin inD2 (eVar 1) (eC (.str "0123456789"))))))))
def F_is_name : Fn := mkF 2 B_is_name
theorem sc_is_name : FnScope ["value", "sign"] ["value"] (defScope s_is_name) := ⟨rfl, rfl, rfl, by decide +kernel, rfl, by decide +kernel, by decide +kernel⟩
theorem own_is_name (C : Cst P w K mg) (D : DefAt K mg "is_name" s_is_name []) : Own P w K mg base 1 "is_name" ["value"] F_is_name [] := by
  obtain ⟨f, fd, F, hm⟩ := D
  have nd : (["value", "sign"] : List Str).Nodup := sc_is_name.nd
  refine ⟨rfl, f, fd, ok_fnD (k := 0) (N := ["value", "sign"]) (ps := ["value"]) (sm := B_is_name) F sc_is_name (fun cdv A outer s H E hr => ?_), hm, F.kp, fun j hj => ?_⟩
  · have tk : Takes (cxOf (L2.CX P w) P w K mg base ["value", "sign"] "is_name" (defScope s_is_name) f cdv A outer s H E) (fun cls d _ H => E cls d H) := takes_of rfl rfl rfl rfl
    exact (dss_cons (ds_if (dt_w (dw_or (dt_not (dt_truth (de_isi (by rfl) C.m_isinstance Pd.boot_isinstance (by rfl) C.m_str Pd.boot_str (dq_var 0)).q)) (dw_or (dt_not (dt_chain op_le l_le op_le l_le de_int (de_callB call_len l_len (by rfl) C.m_len Pd.boot_len (dq_var 0)) (let ⟨_, h⟩ := C.c_LONGEST; de_gint (by rfl) h).q)) (dw_or (dt_cmp (op_notIn4 (hu65 hr)) l_notIn2 (de_ix (de_var 0) de_int.q) (let ⟨_, h⟩ := C.c_SMALL; de_gstr (by rfl) h).q) (dw_or1 (dt_inK (hu65 hr) (by rfl) C.c_WORDS (de_var 0))))))) (dss_one (ds_ret de_bl)) dss_nil)
    (dss_one (ds_ret (de_callB (cr_all rfl) l_all (by rfl) C.m_all Pd.boot_all ((df_comp (js := []) (own := [("sign", 1)]) rfl nd (di_any (de_var 0)) (blkOk_by (own := [("sign", 1)]) (by kernel_rfl)) (fun _ _ _ _ _ => (dg_name (i := 1) nd rfl)) (fun _ _ _ _ _ => dts_nil) (fun _ _ _ _ _ => (de_or (de_cmp (op_in4 (hu65 hr)) l_in2 (de_var 1) (let ⟨_, h⟩ := C.c_SMALL; de_gstr (by rfl) h).q) (de_one (de_cmp (op_in4 (hu65 hr)) l_in2 (de_var 1) (let ⟨_, h⟩ := C.c_FIGURES; de_gstr (by rfl) h).q)))))).e.q))))
  · exact by
      obtain rfl : j = 0 := by simpa using hj
      exact ⟨[], .nil, F.bindsN fun kV doc pm an cdv ct us hl => match us, hl with | [_], _ => rfl⟩
def B_are_letters : SM := sSeq (sIf (tmOr (tmNot (tmE (eCall F_is_row (aCons (eVar 0) (aNil)) []))) (tmOr (tmB (eBin gtD (eUn lenD (eLook 0)) (eC (.int 5)))) (tmNot (tmE (eUn allD (eF (fComp [] (iAny (eVar 0)) [2] (gN 2) (tmYes) (eCall F_is_name (aCons (eVar 2) (aNil)) [])))))))) (sRet (eC (.bl false))) (sNext))
    (sRet (eAnd (eBin eqD (eF (fList (eLook 0))) (eF (fSortSet (eLook 0)))) (eBin leD (eCall F_power_of (aCons (eVar 1) (aCons (eUn lenD (eLook 0)) (aNil))) []) (eC (.int 32)))))
def F_are_letters : Fn := mkF 3 B_are_letters
theorem sc_are_letters : FnScope ["value", "base", "name"] ["value", "base"] (defScope s_are_letters) := ⟨rfl, rfl, rfl, by decide +kernel, rfl, by decide +kernel, by decide +kernel⟩
theorem own_are_letters (C : Cst P w K mg) (D : DefAt K mg "are_letters" s_are_letters []) (o_is_name : Own P w K mg base 1 "is_name" ["value"] F_is_name []) (o_is_row : Own P w K mg base 1 "is_row" ["value"] F_is_row []) (o_power_of : Own P w K mg base 1 "power_of" ["base", "k"] F_power_of []) : Own P w K mg base 2 "are_letters" ["value", "base"] F_are_letters [] := by
  obtain ⟨f, fd, F, hm⟩ := D
  have nd : (["value", "base", "name"] : List Str).Nodup := sc_are_letters.nd
  refine ⟨rfl, f, fd, ok_fnD (k := 1) (N := ["value", "base", "name"]) (ps := ["value", "base"]) (sm := B_are_letters) F sc_are_letters (fun cdv A outer s H E hr => ?_), hm, F.kp, fun j hj => ?_⟩
  · have tk : Takes (cxOf (L2.CX P w) P w K mg base ["value", "base", "name"] "are_letters" (defScope s_are_letters) f cdv A outer s H E) (fun cls d _ H => E cls d H) := takes_of rfl rfl rfl rfl
    exact (dss_cons (ds_if (dt_w (dw_or (dt_not (dt_truth (de_own (j := 0) (dds := []) o_is_row rfl (by decide) (hr.mono (by decide)) tk (da_cons (de_var 0) da_nil) (ln_def (ln_cons ln_nil) rfl)).q)) (dw_or (dt_cmp op_gt l_gt (de_callB call_len l_len (by rfl) C.m_len Pd.boot_len (dq_var 0)) de_int.q) (dw_or1 (dt_not (dt_truth (de_callB (cr_all rfl) l_all (by rfl) C.m_all Pd.boot_all ((df_comp (js := []) (own := [("name", 2)]) rfl nd (di_any (de_var 0)) (blkOk_by (own := [("name", 2)]) (by kernel_rfl)) (fun _ _ _ _ _ => (dg_name (i := 2) nd rfl)) (fun _ _ _ _ _ => dts_nil) (fun _ _ _ _ _ => (de_own (j := 0) (dds := []) o_is_name rfl (by decide) (hr.mono (by decide)) L2.takes0 (da_cons (de_var 2) da_nil) (ln_def (ln_cons ln_nil) rfl))))).e.q).q)))))) (dss_one (ds_ret de_bl)) dss_nil)
    (dss_one (ds_ret (de_and (de_cmp (op_eqD hr.units) l_eq ((df_list (by rfl) C.m_list Pd.boot_list (dq_var 0))).e ((df_sortSet rfl (by rfl) C.m_sorted Pd.boot_sorted (by rfl) C.m_set Pd.boot_set (dq_var 0))).e.q) (de_one (de_cmp op_le l_le (de_own (j := 0) (dds := []) o_power_of rfl (by decide) (hr.mono (by decide)) tk (da_cons (de_var 1) (da_cons (de_callB call_len l_len (by rfl) C.m_len Pd.boot_len (dq_var 0)) da_nil)) (ln_def (ln_cons (ln_cons ln_nil)) rfl)) (let ⟨_, h⟩ := C.c_MOST_COLUMNS; de_gint (by rfl) h).q))))))
  · exact by
      obtain rfl : j = 0 := by simpa using hj
      exact ⟨[], .nil, F.bindsN fun kV doc pm an cdv ct us hl => match us, hl with | [_, _], _ => rfl⟩
def B_are_ends : SM := sSeq (sIf (tmOr (tmNot (tmE (eCall F_is_row (aCons (eVar 0) (aNil)) []))) (tmNot (tmB (eChain leD leD (eC (.int 1)) (eUn lenD (eLook 0)) (eC (.int 300)))))) (sRet (eC (.bl false))) (sNext))
    (sRet (eUn allD (eF (fComp [] (iAny (eVar 0)) [1] (gN 1) (tmYes) (eAnd (eCall F_is_integer (aCons (eVar 1) (aNil)) []) (eBin inD2 (eVar 1) (eTup (aCons (eC (.int 0)) (aCons (eC (.int 1)) (aNil))))))))))
def F_are_ends : Fn := mkF 2 B_are_ends
theorem sc_are_ends : FnScope ["value", "item"] ["value"] (defScope s_are_ends) := ⟨rfl, rfl, rfl, by decide +kernel, rfl, by decide +kernel, by decide +kernel⟩
theorem own_are_ends (C : Cst P w K mg) (D : DefAt K mg "are_ends" s_are_ends []) (o_is_row : Own P w K mg base 1 "is_row" ["value"] F_is_row []) (o_is_integer : Own P w K mg base 1 "is_integer" ["value"] F_is_integer []) : Own P w K mg base 2 "are_ends" ["value"] F_are_ends [] := by
  obtain ⟨f, fd, F, hm⟩ := D
  have nd : (["value", "item"] : List Str).Nodup := sc_are_ends.nd
  refine ⟨rfl, f, fd, ok_fnD (k := 1) (N := ["value", "item"]) (ps := ["value"]) (sm := B_are_ends) F sc_are_ends (fun cdv A outer s H E hr => ?_), hm, F.kp, fun j hj => ?_⟩
  · have tk : Takes (cxOf (L2.CX P w) P w K mg base ["value", "item"] "are_ends" (defScope s_are_ends) f cdv A outer s H E) (fun cls d _ H => E cls d H) := takes_of rfl rfl rfl rfl
    exact (dss_cons (ds_if (dt_w (dw_or (dt_not (dt_truth (de_own (j := 0) (dds := []) o_is_row rfl (by decide) (hr.mono (by decide)) tk (da_cons (de_var 0) da_nil) (ln_def (ln_cons ln_nil) rfl)).q)) (dw_or1 (dt_not (dt_chain op_le l_le op_le l_le de_int (de_callB call_len l_len (by rfl) C.m_len Pd.boot_len (dq_var 0)) (let ⟨_, h⟩ := C.c_MOST_STATES; de_gint (by rfl) h).q))))) (dss_one (ds_ret de_bl)) dss_nil)
    (dss_one (ds_ret (de_callB (cr_all rfl) l_all (by rfl) C.m_all Pd.boot_all ((df_comp (js := []) (own := [("item", 1)]) rfl nd (di_any (de_var 0)) (blkOk_by (own := [("item", 1)]) (by kernel_rfl)) (fun _ _ _ _ _ => (dg_name (i := 1) nd rfl)) (fun _ _ _ _ _ => dts_nil) (fun _ _ _ _ _ => (de_and (de_own (j := 0) (dds := []) o_is_integer rfl (by decide) (hr.mono (by decide)) L2.takes0 (da_cons (de_var 1) da_nil) (ln_def (ln_cons ln_nil) rfl)) (de_one (de_cmp (op_in4 (hu65 hr)) l_in2 (de_var 1) (de_tup (da_cons de_int (da_cons de_int da_nil))).q)))))).e.q))))
  · exact by
      obtain rfl : j = 0 := by simpa using hj
      exact ⟨[], .nil, F.bindsN fun kV doc pm an cdv ct us hl => match us, hl with | [_], _ => rfl⟩
def B_are_steps : SM := sSeq (sIf (tmOr (tmNot (tmE (eCall F_is_row (aCons (eVar 0) (aNil)) []))) (tmB (eBin neD (eUn lenD (eLook 0)) (eLook 1)))) (sRet (eC (.bl false))) (sNext))
    (sSeq (sIf (tmNot (tmE (eUn allD (eF (fComp [] (iAny (eVar 0)) [3] (gN 3) (tmYes) (eAnd (eCall F_is_row (aCons (eVar 3) (aNil)) []) (eBin eqD (eUn lenD (eLook 3)) (eLook 2)))))))) (sRet (eC (.bl false))) (sNext))
    (sRet (eUn allD (eF (fComp2 [] (iAny (eVar 0)) [3, 4] (gN 3) (tmYes) (iAny (eVar 3)) [4] (gN 4) (tmYes) (eAnd (eCall F_is_integer (aCons (eVar 4) (aNil)) []) (eChain leD ltD (eC (.int 0)) (eVar 4) (eLook 1))))))))
def F_are_steps : Fn := mkF 5 B_are_steps
theorem sc_are_steps : FnScope ["value", "states", "columns", "row", "item"] ["value", "states", "columns"] (defScope s_are_steps) := ⟨rfl, rfl, rfl, by decide +kernel, rfl, by decide +kernel, by decide +kernel⟩
theorem own_are_steps (C : Cst P w K mg) (D : DefAt K mg "are_steps" s_are_steps []) (o_is_row : Own P w K mg base 1 "is_row" ["value"] F_is_row []) (o_is_integer : Own P w K mg base 1 "is_integer" ["value"] F_is_integer []) : Own P w K mg base 2 "are_steps" ["value", "states", "columns"] F_are_steps [] := by
  obtain ⟨f, fd, F, hm⟩ := D
  have nd : (["value", "states", "columns", "row", "item"] : List Str).Nodup := sc_are_steps.nd
  refine ⟨rfl, f, fd, ok_fnD (k := 1) (N := ["value", "states", "columns", "row", "item"]) (ps := ["value", "states", "columns"]) (sm := B_are_steps) F sc_are_steps (fun cdv A outer s H E hr => ?_), hm, F.kp, fun j hj => ?_⟩
  · have tk : Takes (cxOf (L2.CX P w) P w K mg base ["value", "states", "columns", "row", "item"] "are_steps" (defScope s_are_steps) f cdv A outer s H E) (fun cls d _ H => E cls d H) := takes_of rfl rfl rfl rfl
    exact (dss_cons (ds_if (dt_w (dw_or (dt_not (dt_truth (de_own (j := 0) (dds := []) o_is_row rfl (by decide) (hr.mono (by decide)) tk (da_cons (de_var 0) da_nil) (ln_def (ln_cons ln_nil) rfl)).q)) (dw_or1 (dt_cmp (op_neD hr.units) l_ne (de_callB call_len l_len (by rfl) C.m_len Pd.boot_len (dq_var 0)) (dq_var 1))))) (dss_one (ds_ret de_bl)) dss_nil)
    (dss_cons (ds_if (dt_not (dt_truth (de_callB (cr_all rfl) l_all (by rfl) C.m_all Pd.boot_all ((df_comp (js := []) (own := [("row", 3)]) rfl nd (di_any (de_var 0)) (blkOk_by (own := [("row", 3)]) (by kernel_rfl)) (fun _ _ _ _ _ => (dg_name (i := 3) nd rfl)) (fun _ _ _ _ _ => dts_nil) (fun _ _ _ _ _ => (de_and (de_own (j := 0) (dds := []) o_is_row rfl (by decide) (hr.mono (by decide)) L2.takes0 (da_cons (de_var 3) da_nil) (ln_def (ln_cons ln_nil) rfl)) (de_one (de_cmp (op_eqD hr.units) l_eq (de_callB call_len l_len (by rfl) C.m_len Pd.boot_len (dq_var 3)) (dq_var 2))))))).e.q).q)) (dss_one (ds_ret de_bl)) dss_nil)
    (dss_one (ds_ret (de_callB (cr_all rfl) l_all (by rfl) C.m_all Pd.boot_all ((df_comp2 (js := []) (own := [("row", 3), ("item", 4)]) (vs1 := [4]) rfl nd (di_any (de_var 0)) (blkOk_by (own := [("row", 3), ("item", 4)]) (by kernel_rfl)) (by decide) (fun _ _ _ _ _ => (dg_name (i := 3) nd rfl)) (fun _ _ _ _ _ => dts_nil) (fun _ _ _ _ _ => (di_any (de_var 3))) (fun _ _ _ _ _ => (dg_name (i := 4) nd rfl)) (fun _ _ _ _ _ => dts_nil) (fun _ _ _ _ _ => (de_and (de_own (j := 0) (dds := []) o_is_integer rfl (by decide) (hr.mono (by decide)) L2.takes0 (da_cons (de_var 4) da_nil) (ln_def (ln_cons ln_nil) rfl)) (de_one (de_chain op_le l_le op_lt l_lt de_int (de_var 4) (dq_var 1))))))).e.q)))))
  · exact by
      obtain rfl : j = 0 := by simpa using hj
      exact ⟨[], .nil, F.bindsN fun kV doc pm an cdv ct us hl => match us, hl with | [_, _, _], _ => rfl⟩
def B_machine_breach : SM := sSeq (sIf (tmOr (tmNot (tmE (eCall F_is_integer (aCons (eVar 0) (aNil)) []))) (tmNot (tmB (eChain leD leD (eC (.int 2)) (eVar 0) (eC (.int 4)))))) (sRet (eC (.str "base"))) (sNext))
    (sSeq (sIf (tmNot (tmE (eCall F_are_letters (aCons (eVar 1) (aCons (eVar 0) (aNil))) []))) (sRet (eC (.str "letters"))) (sNext))
    (sSeq (sIf (tmNot (tmE (eCall F_are_ends (aCons (eVar 2) (aNil)) []))) (sRet (eC (.str "ends"))) (sNext))
    (sSeq (sIf (tmNot (tmE (eCall F_are_steps (aCons (eVar 3) (aCons (eUn lenD (eLook 2)) (aCons (eCall F_power_of (aCons (eVar 0) (aCons (eUn lenD (eLook 1)) (aNil))) []) (aNil)))) []))) (sRet (eC (.str "steps"))) (sNext))
    (sRet (eIf (tmB (eBin eqD (eBin ixD (eBin ixD (eVar 3) (eC (.int 0))) (eC (.int 0))) (eC (.int 0)))) (eC .non) (eC (.str "noughts")))))))
def F_machine_breach : Fn := mkF 4 B_machine_breach
theorem sc_machine_breach : FnScope ["base", "letters", "ends", "steps"] ["base", "letters", "ends", "steps"] (defScope s_machine_breach) := ⟨rfl, rfl, rfl, by decide +kernel, rfl, by decide +kernel, by decide +kernel⟩
theorem own_machine_breach (C : Cst P w K mg) (D : DefAt K mg "machine_breach" s_machine_breach []) (o_is_integer : Own P w K mg base 1 "is_integer" ["value"] F_is_integer []) (o_are_letters : Own P w K mg base 2 "are_letters" ["value", "base"] F_are_letters []) (o_are_ends : Own P w K mg base 2 "are_ends" ["value"] F_are_ends []) (o_are_steps : Own P w K mg base 2 "are_steps" ["value", "states", "columns"] F_are_steps []) (o_power_of : Own P w K mg base 1 "power_of" ["base", "k"] F_power_of []) : Own P w K mg base 3 "machine_breach" ["base", "letters", "ends", "steps"] F_machine_breach [] := by
  obtain ⟨f, fd, F, hm⟩ := D
  have nd : (["base", "letters", "ends", "steps"] : List Str).Nodup := sc_machine_breach.nd
  refine ⟨rfl, f, fd, ok_fnD (k := 2) (N := ["base", "letters", "ends", "steps"]) (ps := ["base", "letters", "ends", "steps"]) (sm := B_machine_breach) F sc_machine_breach (fun cdv A outer s H E hr => ?_), hm, F.kp, fun j hj => ?_⟩
  · have tk : Takes (cxOf (L2.CX P w) P w K mg base ["base", "letters", "ends", "steps"] "machine_breach" (defScope s_machine_breach) f cdv A outer s H E) (fun cls d _ H => E cls d H) := takes_of rfl rfl rfl rfl
    exact (dss_cons (ds_if (dt_w (dw_or (dt_not (dt_truth (de_own (j := 0) (dds := []) o_is_integer rfl (by decide) (hr.mono (by decide)) tk (da_cons (de_var 0) da_nil) (ln_def (ln_cons ln_nil) rfl)).q)) (dw_or1 (dt_not (dt_chain op_le l_le op_le l_le de_int (de_var 0) de_int.q))))) (dss_one (ds_ret de_str)) dss_nil)
    (dss_cons (ds_if (dt_not (dt_truth (de_own (j := 0) (dds := []) o_are_letters rfl (by decide) (hr.mono (by decide)) tk (da_cons (de_var 1) (da_cons (de_var 0) da_nil)) (ln_def (ln_cons (ln_cons ln_nil)) rfl)).q)) (dss_one (ds_ret de_str)) dss_nil)
    (dss_cons (ds_if (dt_not (dt_truth (de_own (j := 0) (dds := []) o_are_ends rfl (by decide) (hr.mono (by decide)) tk (da_cons (de_var 2) da_nil) (ln_def (ln_cons ln_nil) rfl)).q)) (dss_one (ds_ret de_str)) dss_nil)
    (dss_cons (ds_if (dt_not (dt_truth (de_own (j := 0) (dds := []) o_are_steps rfl (by decide) (hr.mono (by decide)) tk (da_cons (de_var 3) (da_cons (de_callB call_len l_len (by rfl) C.m_len Pd.boot_len (dq_var 2)) (da_cons (de_own (j := 0) (dds := []) o_power_of rfl (by decide) (hr.mono (by decide)) tk (da_cons (de_var 0) (da_cons (de_callB call_len l_len (by rfl) C.m_len Pd.boot_len (dq_var 1)) da_nil)) (ln_def (ln_cons (ln_cons ln_nil)) rfl)) da_nil))) (ln_def (ln_cons (ln_cons (ln_cons ln_nil))) rfl)).q)) (dss_one (ds_ret de_str)) dss_nil)
    (dss_one (ds_ret (de_if (dt_cmp (op_eqD hr.units) l_eq (de_ix (de_ix (de_var 3) de_int.q) de_int.q) de_int.q) de_non de_str)))))))
  · exact by
      obtain rfl : j = 0 := by simpa using hj
      exact ⟨[], .nil, F.bindsN fun kV doc pm an cdv ct us hl => match us, hl with | [_, _, _, _], _ => rfl⟩
def B_Machine_init : SM := sSeq (sAsg (eCall F_machine_breach (aCons (eVar 1) (aCons (eVar 2) (aCons (eVar 3) (aCons (eVar 4) (aNil))))) []) (gN 5))
    (sSeq (sIf (tmB (eNotN (eVar 5))) (sRaise "BadMachine" ["why"] (aCons (eVar 5) (aNil))) (sNext))
    (sSeq (sFldS 0 cs "base" (eVar 1))
    (sSeq (sFldS 0 cs "letters" (eUn tupleD (eLook 2)))
    (sSeq (sFldS 0 cs "ends" (eUn tupleD (eLook 3)))
    (sSeq (sFldS 0 cs "steps" (eUn tupleD (eF (fComp [] (iAny (eVar 4)) [6] (gN 6) (tmYes) (eUn tupleD (eLook 6))))))
    (sFldS 0 cs "many" (eUn lenD (eFldS 0 cs "ends"))))))))
theorem sc_Machine_init : FnScope ["self", "base", "letters", "ends", "steps", "why", "row"] ["self", "base", "letters", "ends", "steps"] (defScope s_Machine_init) := ⟨rfl, rfl, rfl, by decide +kernel, rfl, by decide +kernel, by decide +kernel⟩
def I_Machine : Ini := mkI 7 "Machine" B_Machine_init
theorem mk_Machine (C : Cst P w K mg) (E : MkAt K mg "Machine") (D : MethAt K mg "Machine" "__init__" "Machine.__init__" s_Machine_init []) (o_machine_breach : Own P w K mg base 3 "machine_breach" ["base", "letters", "ends", "steps"] F_machine_breach []) : MkO P w K mg base 4 "Machine" 4 I_Machine [] := by
  have nd : (["self", "base", "letters", "ends", "steps", "why", "row"] : List Str).Nodup := sc_Machine_init.nd
  refine mkO_of (ps := ["self", "base", "letters", "ends", "steps"]) E D rfl fun f fd F => ⟨ok_init (k := 3) (N := ["self", "base", "letters", "ends", "steps", "why", "row"]) (ps := ["self", "base", "letters", "ends", "steps"]) (n := 4) (sm := B_Machine_init) F sc_Machine_init rfl (fun cdv A outer s H E hr => ?_), fun j hj => ?_⟩
  · have tk : Takes (cxOf (L2.CX P w) P w K mg base ["self", "base", "letters", "ends", "steps", "why", "row"] "Machine.__init__" (defScope s_Machine_init) f cdv A outer s H E) (fun cls d _ H => E cls d H) := takes_of rfl rfl rfl rfl
    exact (dss_cons (ds_set (i := 5) nd (de_own (j := 0) (dds := []) o_machine_breach rfl (by decide) (hr.mono (by decide)) tk (da_cons (de_var 1) (da_cons (de_var 2) (da_cons (de_var 3) (da_cons (de_var 4) da_nil)))) (ln_def (ln_cons (ln_cons (ln_cons (ln_cons ln_nil)))) rfl)))
    (dss_cons (ds_if (dt_notN (de_var 5)) (dss_one (let ⟨_, _, _, _, T, I⟩ := C.x_BadMachine; ds_raise (k := 0) rfl tk T I (hr.mono (by decide)) (by decide) (da_cons (de_var 5) da_nil) rfl)) dss_nil)
    (dss_cons (ds_fldS (i := 0) C.T (de_var 1))
    (dss_cons (ds_fldS (i := 0) C.T (de_callTy call_tuple_of l_tuple (by rfl) C.m_tuple Pd.boot_tuple (dq_var 2)))
    (dss_cons (ds_fldS (i := 0) C.T (de_callTy call_tuple_of l_tuple (by rfl) C.m_tuple Pd.boot_tuple (dq_var 3)))
    (dss_cons (ds_fldS (i := 0) C.T (de_callTy call_tuple_of l_tuple (by rfl) C.m_tuple Pd.boot_tuple ((df_comp (js := []) (own := [("row", 6)]) rfl nd (di_any (de_var 4)) (blkOk_by (own := [("row", 6)]) (by kernel_rfl)) (fun _ _ _ _ _ => (dg_name (i := 6) nd rfl)) (fun _ _ _ _ _ => dts_nil) (fun _ _ _ _ _ => (de_callTy call_tuple_of l_tuple (by rfl) C.m_tuple Pd.boot_tuple (dq_var 6))))).e.q))
    (dss_one (ds_fldS (i := 0) C.T (de_callB call_len l_len (by rfl) C.m_len Pd.boot_len (de_fldS 0 C.T).q)))))))))
  · exact by
      obtain rfl : j = 0 := by simpa using hj
      exact ⟨[], .nil, F.bindsN fun kV doc pm an cdv ct us hl => match us, hl with | [_, _, _, _, _], _ => rfl⟩
def B_Machine_eq : SM := sSeq (sIf (tmOr (tmNot (tmE (eUn (isiC cs "Machine") (eLook 1)))) (tmB (eBin neD (eTup (aCons (eUn (fldD cs "base") (eVar 0)) (aCons (eUn (fldD cs "letters") (eVar 0)) (aNil)))) (eTup (aCons (eUn (fldD cs "base") (eVar 1)) (aCons (eUn (fldD cs "letters") (eVar 1)) (aNil))))))) (sRet (eC (.bl false))) (sNext))
    (sRet (eBin eqD (eTup (aCons (eUn (fldD cs "ends") (eVar 0)) (aCons (eUn (fldD cs "steps") (eVar 0)) (aNil)))) (eTup (aCons (eUn (fldD cs "ends") (eVar 1)) (aCons (eUn (fldD cs "steps") (eVar 1)) (aNil))))))
theorem sc_Machine_eq : FnScope ["self", "other"] ["self", "other"] (defScope s_Machine_eq) := ⟨rfl, rfl, rfl, by decide +kernel, rfl, by decide +kernel, by decide +kernel⟩
def F_Machine_eq : Fn := mkF 2 B_Machine_eq
theorem eq_Machine (C : Cst P w K mg) (E : EqAt K mg "Machine") (D : MethAt K mg "Machine" "__eq__" "Machine.__eq__" s_Machine_eq []) : EqM P w K mg base 1 "Machine" F_Machine_eq := by
  have nd : (["self", "other"] : List Str).Nodup := sc_Machine_eq.nd
  refine eqM_of (ps := ["self", "other"]) E D rfl fun f fd F => ⟨ok_fnD (k := 0) (N := ["self", "other"]) (ps := ["self", "other"]) (sm := B_Machine_eq) F sc_Machine_eq (fun cdv A outer s H E hr => ?_), ?_⟩
  · have tk : Takes (cxOf (L2.CX P w) P w K mg base ["self", "other"] "Machine.__eq__" (defScope s_Machine_eq) f cdv A outer s H E) (fun cls d _ H => E cls d H) := takes_of rfl rfl rfl rfl
    exact (dss_cons (ds_if (dt_w (dw_or (dt_not (dt_truth (de_isiC C.T rfl (by rfl) C.m_isinstance Pd.boot_isinstance (by rfl) (dq_var 1)).q)) (dw_or1 (dt_cmp (op_neD hr.units) l_ne (de_tup (da_cons (de_fld C.T (de_var 0)) (da_cons (de_fld C.T (de_var 0)) da_nil))) (de_tup (da_cons (de_fld C.T (de_var 1)) (da_cons (de_fld C.T (de_var 1)) da_nil))).q)))) (dss_one (ds_ret de_bl)) dss_nil)
    (dss_one (ds_ret (de_cmp (op_eqD hr.units) l_eq (de_tup (da_cons (de_fld C.T (de_var 0)) (da_cons (de_fld C.T (de_var 0)) da_nil))) (de_tup (da_cons (de_fld C.T (de_var 1)) (da_cons (de_fld C.T (de_var 1)) da_nil))).q))))
  · exact F.bindsN fun kV doc pm an cdv ct us hl => match us, hl with | [_, _], _ => rfl
abbrev Teq : List (Str × Fn) := [("Machine", F_Machine_eq)]
theorem eq_all (h_Machine : EqM P w K mg base 1 "Machine" F_Machine_eq) : ∀ q ∈ Teq, EqM P w K mg base 1 q.1 q.2 ∧ ∃ fl, (q.1, fl) ∈ cs := by
  intro q hq
  rcases List.mem_cons.mp hq with rfl | hq
  · exact ⟨h_Machine, _, .head _⟩
  cases hq
def B_is_count : SM := sRet (eAnd (eCall F_is_integer (aCons (eVar 0) (aNil)) []) (eAnd (eBin geD (eVar 0) (eC (.int 0))) (eOr (eIsN (eVar 1)) (eBin leD (eVar 0) (eLook 1)))))
def F_is_count : Fn := mkF 2 B_is_count
theorem sc_is_count : FnScope ["value", "most"] ["value", "most"] (defScope s_is_count) := ⟨rfl, rfl, rfl, by decide +kernel, rfl, by decide +kernel, by decide +kernel⟩
theorem own_is_count (C : Cst P w K mg) (D : DefAt K mg "is_count" s_is_count [.non]) (o_is_integer : Own P w K mg base 1 "is_integer" ["value"] F_is_integer []) : Own P w K mg base 2 "is_count" ["value", "most"] F_is_count [.non] := by
  obtain ⟨f, fd, F, hm⟩ := D
  have nd : (["value", "most"] : List Str).Nodup := sc_is_count.nd
  refine ⟨rfl, f, fd, ok_fnD (k := 1) (N := ["value", "most"]) (ps := ["value", "most"]) (sm := B_is_count) F sc_is_count (fun cdv A outer s H E hr => ?_), hm, F.kp, fun j hj => ?_⟩
  · have tk : Takes (cxOf (L2.CX P w) P w K mg base ["value", "most"] "is_count" (defScope s_is_count) f cdv A outer s H E) (fun cls d _ H => E cls d H) := takes_of rfl rfl rfl rfl
    exact (dss_one (ds_ret (de_and (de_own (j := 0) (dds := []) o_is_integer rfl (by decide) (hr.mono (by decide)) tk (da_cons (de_var 0) da_nil) (ln_def (ln_cons ln_nil) rfl)) (de_and (de_cmp op_ge l_ge (de_var 0) de_int.q) (de_one (de_or (de_isN (de_var 1)) (de_one (de_cmp op_le l_le (de_var 0) (dq_var 1)))))))))
  · exact match j, hj with
    | 0, _ => F.binds1 1 0 (by simp) rfl fun T kV doc pm an cdv ct us its hl hi => match us, its, hl, hi with | [_], [_], _, _ => ⟨_, rfl, rfl⟩
    | 1, _ => F.binds1 2 1 (by simp) rfl fun T kV doc pm an cdv ct us its hl hi => match us, its, hl, hi with | [_, _], [_], _, _ => ⟨_, rfl, rfl⟩
    | j + 2, h => absurd h (by simp)
def B_is_base : SM := sRet (eAnd (eCall F_is_integer (aCons (eVar 0) (aNil)) []) (eChain leD leD (eC (.int 2)) (eVar 0) (eC (.int 4))))
def F_is_base : Fn := mkF 1 B_is_base
theorem sc_is_base : FnScope ["value"] ["value"] (defScope s_is_base) := ⟨rfl, rfl, rfl, by decide +kernel, rfl, by decide +kernel, by decide +kernel⟩
theorem own_is_base (C : Cst P w K mg) (D : DefAt K mg "is_base" s_is_base []) (o_is_integer : Own P w K mg base 1 "is_integer" ["value"] F_is_integer []) : Own P w K mg base 2 "is_base" ["value"] F_is_base [] := by
  obtain ⟨f, fd, F, hm⟩ := D
  have nd : (["value"] : List Str).Nodup := sc_is_base.nd
  refine ⟨rfl, f, fd, ok_fnD (k := 1) (N := ["value"]) (ps := ["value"]) (sm := B_is_base) F sc_is_base (fun cdv A outer s H E hr => ?_), hm, F.kp, fun j hj => ?_⟩
  · have tk : Takes (cxOf (L2.CX P w) P w K mg base ["value"] "is_base" (defScope s_is_base) f cdv A outer s H E) (fun cls d _ H => E cls d H) := takes_of rfl rfl rfl rfl
    exact (dss_one (ds_ret (de_and (de_own (j := 0) (dds := []) o_is_integer rfl (by decide) (hr.mono (by decide)) tk (da_cons (de_var 0) da_nil) (ln_def (ln_cons ln_nil) rfl)) (de_one (de_chain op_le l_le op_le l_le de_int (de_var 0) (let ⟨_, h⟩ := C.c_MOST_BASE; de_gint (by rfl) h).q)))))
  · exact by
      obtain rfl : j = 0 := by simpa using hj
      exact ⟨[], .nil, F.bindsN fun kV doc pm an cdv ct us hl => match us, hl with | [_], _ => rfl⟩
def B_need_base : SM := sIf (tmNot (tmE (eCall F_is_base (aCons (eVar 0) (aNil)) []))) (sRaise "BadBase" ["value"] (aCons (eVar 0) (aNil))) (sNext)
def F_need_base : Fn := mkF 1 B_need_base
theorem sc_need_base : FnScope ["base"] ["base"] (defScope s_need_base) := ⟨rfl, rfl, rfl, by decide +kernel, rfl, by decide +kernel, by decide +kernel⟩
theorem own_need_base (C : Cst P w K mg) (D : DefAt K mg "need_base" s_need_base []) (o_is_base : Own P w K mg base 2 "is_base" ["value"] F_is_base []) : Own P w K mg base 3 "need_base" ["base"] F_need_base [] := by
  obtain ⟨f, fd, F, hm⟩ := D
  have nd : (["base"] : List Str).Nodup := sc_need_base.nd
  refine ⟨rfl, f, fd, ok_fnD (k := 2) (N := ["base"]) (ps := ["base"]) (sm := B_need_base) F sc_need_base (fun cdv A outer s H E hr => ?_), hm, F.kp, fun j hj => ?_⟩
  · have tk : Takes (cxOf (L2.CX P w) P w K mg base ["base"] "need_base" (defScope s_need_base) f cdv A outer s H E) (fun cls d _ H => E cls d H) := takes_of rfl rfl rfl rfl
    exact (dss_one (ds_if (dt_not (dt_truth (de_own (j := 0) (dds := []) o_is_base rfl (by decide) (hr.mono (by decide)) tk (da_cons (de_var 0) da_nil) (ln_def (ln_cons ln_nil) rfl)).q)) (dss_one (let ⟨_, _, _, _, T, I⟩ := C.x_BadBase; ds_raise (k := 0) rfl tk T I (hr.mono (by decide)) (by decide) (da_cons (de_var 0) da_nil) rfl)) dss_nil))
  · exact by
      obtain rfl : j = 0 := by simpa using hj
      exact ⟨[], .nil, F.bindsN fun kV doc pm an cdv ct us hl => match us, hl with | [_], _ => rfl⟩
def B_digits_by : SM := sSeq (sOwn (fLst (aNil)) 2)
    (sSeq (sWhile (tmB (eBin gtD (eVar 0) (eC (.int 0)))) (sSeq (sAppend 2 (eBin modD (eVar 0) (eLook 1)))
    (sAsg (eBin divD (eVar 0) (eLook 1)) (gN 0))))
    (sRet (eUn tupleD (eF (fRev (eLook 2))))))
def F_digits_by : Fn := mkF 3 B_digits_by
theorem sc_digits_by : FnScope ["n", "base", "found"] ["n", "base"] (defScope s_digits_by) := ⟨rfl, rfl, rfl, by decide +kernel, rfl, by decide +kernel, by decide +kernel⟩
theorem own_digits_by (C : Cst P w K mg) (D : DefAt K mg "digits_by" s_digits_by []) : Own P w K mg base 1 "digits_by" ["n", "base"] F_digits_by [] := by
  obtain ⟨f, fd, F, hm⟩ := D
  have nd : (["n", "base", "found"] : List Str).Nodup := sc_digits_by.nd
  refine ⟨rfl, f, fd, ok_fnD (k := 0) (N := ["n", "base", "found"]) (ps := ["n", "base"]) (sm := B_digits_by) F sc_digits_by (fun cdv A outer s H E hr => ?_), hm, F.kp, fun j hj => ?_⟩
  · have tk : Takes (cxOf (L2.CX P w) P w K mg base ["n", "base", "found"] "digits_by" (defScope s_digits_by) f cdv A outer s H E) (fun cls d _ H => E cls d H) := takes_of rfl rfl rfl rfl
    exact (dss_cons (ds_own (i := 2) nd (df_lst da_nil))
    (dss_cons (ds_while (L2.passes_of rfl) (dt_cmp op_gt l_gt (de_var 0) de_int.q) (dss_cons (ds_append (j := 2) (de_bin op_mod l_mod (de_var 0) (dq_var 1)) (hm := fun t h => pe_bm PySem.F.plainAttrs_list PySem.F.slot_list_append PySem.F.type_list_append mt_append (pv 2) (pa_cons h pa_nil)))
    (dss_one (ds_set (i := 0) nd (de_bin op_fdivW l_div (de_var 0) (dq_var 1))))))
    (dss_one (ds_ret (de_callTy call_tuple_of l_tuple (by rfl) C.m_tuple Pd.boot_tuple ((df_rev (dq_var 2))).e.q)))))
  · exact by
      obtain rfl : j = 0 := by simpa using hj
      exact ⟨[], .nil, F.bindsN fun kV doc pm an cdv ct us hl => match us, hl with | [_, _], _ => rfl⟩
def B_number_by : SM := sSeq (sAsg (eC (.int 0)) (gN 2))
    (sSeq (sFor (iAny (eVar 0)) (gN 3) (sAsg (eBin addD (eBin mulD3 (eVar 2) (eLook 1)) (eLook 3)) (gN 2)))
    (sRet (eVar 2)))
def F_number_by : Fn := mkF 4 B_number_by
theorem sc_number_by : FnScope ["row", "base", "found", "digit"] ["row", "base"] (defScope s_number_by) := ⟨rfl, rfl, rfl, by decide +kernel, rfl, by decide +kernel, by decide +kernel⟩
theorem own_number_by (C : Cst P w K mg) (D : DefAt K mg "number_by" s_number_by []) : Own P w K mg base 1 "number_by" ["row", "base"] F_number_by [] := by
  obtain ⟨f, fd, F, hm⟩ := D
  have nd : (["row", "base", "found", "digit"] : List Str).Nodup := sc_number_by.nd
  refine ⟨rfl, f, fd, ok_fnD (k := 0) (N := ["row", "base", "found", "digit"]) (ps := ["row", "base"]) (sm := B_number_by) F sc_number_by (fun cdv A outer s H E hr => ?_), hm, F.kp, fun j hj => ?_⟩
  · have tk : Takes (cxOf (L2.CX P w) P w K mg base ["row", "base", "found", "digit"] "number_by" (defScope s_number_by) f cdv A outer s H E) (fun cls d _ H => E cls d H) := takes_of rfl rfl rfl rfl
    exact (dss_cons (ds_set (i := 2) nd de_int)
    (dss_cons (ds_for (L2.passes_of rfl) rfl (di_any (de_var 0)) (dg_name (i := 3) nd rfl) (dss_one (ds_set (i := 2) nd (de_bin op_add4 l_add (de_bin op_mul4 l_mul3 (de_var 2) (dq_var 1)) (dq_var 3)))))
    (dss_one (ds_ret (de_var 2)))))
  · exact by
      obtain rfl : j = 0 := by simpa using hj
      exact ⟨[], .nil, F.bindsN fun kV doc pm an cdv ct us hl => match us, hl with | [_, _], _ => rfl⟩
def B_read_side_by_side : SM := sSeq (sOwn (fComp [] (iAny (eVar 0)) [5] (gN 5) (tmYes) (eCall F_digits_by (aCons (eVar 5) (aCons (eVar 1) (aNil))) [])) 2)
    (sSeq (sAsg (eUn maxD (eBin addD (eF (fLst (aCons (eC (.int 0)) (aNil)))) (eF (fComp [] (iAny (eVar 2)) [6] (gN 6) (tmYes) (eUn lenD (eLook 6)))))) (gN 3))
    (sSeq (sOwn (fComp [] (iAny (eVar 2)) [6] (gN 6) (tmYes) (eBin addD (eBin mulD3 (eTup (aCons (eC (.int 0)) (aNil))) (eBin subD (eVar 3) (eUn lenD (eLook 6)))) (eLook 6))) 4)
    (sRet (eUn tupleD (eF (fComp [4] (iRange1 (aCons (eVar 3) (aNil))) [7] (gN 7) (tmYes) (eCall F_number_by (aCons (eF (fComp [] (iAny (eVar 4)) [6] (gN 6) (tmYes) (eBin ixD (eVar 6) (eLook 7)))) (aCons (eVar 1) (aNil))) [])))))))
def F_read_side_by_side : Fn := mkF 8 B_read_side_by_side
theorem sc_read_side_by_side : FnScope ["numbers", "base", "rows", "long", "wide", "n", "row", "at"] ["numbers", "base"] (defScope s_read_side_by_side) := ⟨rfl, rfl, rfl, by decide +kernel, rfl, by decide +kernel, by decide +kernel⟩
theorem own_read_side_by_side (C : Cst P w K mg) (D : DefAt K mg "read_side_by_side" s_read_side_by_side []) (o_digits_by : Own P w K mg base 1 "digits_by" ["n", "base"] F_digits_by []) (o_number_by : Own P w K mg base 1 "number_by" ["row", "base"] F_number_by []) : Own P w K mg base 2 "read_side_by_side" ["numbers", "base"] F_read_side_by_side [] := by
  obtain ⟨f, fd, F, hm⟩ := D
  have nd : (["numbers", "base", "rows", "long", "wide", "n", "row", "at"] : List Str).Nodup := sc_read_side_by_side.nd
  refine ⟨rfl, f, fd, ok_fnD (k := 1) (N := ["numbers", "base", "rows", "long", "wide", "n", "row", "at"]) (ps := ["numbers", "base"]) (sm := B_read_side_by_side) F sc_read_side_by_side (fun cdv A outer s H E hr => ?_), hm, F.kp, fun j hj => ?_⟩
  · have tk : Takes (cxOf (L2.CX P w) P w K mg base ["numbers", "base", "rows", "long", "wide", "n", "row", "at"] "read_side_by_side" (defScope s_read_side_by_side) f cdv A outer s H E) (fun cls d _ H => E cls d H) := takes_of rfl rfl rfl rfl
    exact (dss_cons (ds_setComp (i := 2) (js := []) (own := [("n", 5)]) rfl nd rfl (by rfl) (di_any (de_var 0)) (blkOk_by (own := [("n", 5)]) (by kernel_rfl)) (fun _ _ _ _ _ => (dg_name (i := 5) nd rfl)) (fun _ _ _ _ _ => dts_nil) (fun _ _ _ _ _ => (de_own (j := 0) (dds := []) o_digits_by rfl (by decide) (hr.mono (by decide)) L2.takes0 (da_cons (de_var 5) (da_cons (de_var 1) da_nil)) (ln_def (ln_cons (ln_cons ln_nil)) rfl))))
    (dss_cons (ds_set (i := 3) nd (de_callB (cr_max rfl) l_max (by rfl) C.m_max Pd.boot_max (de_bin op_add4 l_add ((df_lst (da_cons de_int da_nil))).e ((df_comp (js := []) (own := [("row", 6)]) rfl nd (di_any (de_var 2)) (blkOk_by (own := [("row", 6)]) (by kernel_rfl)) (fun _ _ _ _ _ => (dg_name (i := 6) nd rfl)) (fun _ _ _ _ _ => dts_nil) (fun _ _ _ _ _ => (de_callB call_len l_len (by rfl) C.m_len Pd.boot_len (dq_var 6))))).e.q).q))
    (dss_cons (ds_own (i := 4) nd (df_comp (js := []) (own := [("row", 6)]) rfl nd (di_any (de_var 2)) (blkOk_by (own := [("row", 6)]) (by kernel_rfl)) (fun _ _ _ _ _ => (dg_name (i := 6) nd rfl)) (fun _ _ _ _ _ => dts_nil) (fun _ _ _ _ _ => (de_bin op_add4 l_add (de_bin op_mul4 l_mul3 (de_tup (da_cons de_int da_nil)) (de_bin op_sub l_sub (de_var 3) (de_callB call_len l_len (by rfl) C.m_len Pd.boot_len (dq_var 6)).q).q) (dq_var 6)))))
    (dss_one (ds_ret (de_callTy call_tuple_of l_tuple (by rfl) C.m_tuple Pd.boot_tuple ((df_comp (js := [4]) (own := [("at", 7)]) rfl nd (di_range1 (by rfl) C.m_range (da_cons (de_var 3) da_nil)) (blkOk_by (own := [("at", 7)]) (by kernel_rfl)) (fun _ _ _ _ _ => (dg_name (i := 7) nd rfl)) (fun _ _ _ _ _ => dts_nil) (fun _ _ _ _ _ => (de_own (j := 0) (dds := []) o_number_by rfl (by decide) (hr.mono (by decide)) L2.takes0 (da_cons ((df_comp (js := []) (own := [("row", 6)]) rfl nd (di_any (de_var 4)) (blkOk_by (own := [("row", 6)]) (by kernel_rfl)) (fun _ _ _ _ _ => (dg_name (i := 6) nd rfl)) (fun _ _ _ _ _ => dts_nil) (fun _ _ _ _ _ => (de_ix (de_var 6) (dq_var 7))))).e (da_cons (de_var 1) da_nil)) (ln_def (ln_cons (ln_cons ln_nil)) rfl))))).e.q))))))
  · exact by
      obtain rfl : j = 0 := by simpa using hj
      exact ⟨[], .nil, F.bindsN fun kV doc pm an cdv ct us hl => match us, hl with | [_, _], _ => rfl⟩
def B_columns_of : SM := sSeq (sExpr (eCall F_need_base (aCons (eVar 1) (aNil)) []))
    (sSeq (sIf (tmOr (tmNot (tmE (eCall F_is_row (aCons (eVar 0) (aNil)) []))) (tmNot (tmE (eUn allD (eF (fComp [] (iAny (eVar 0)) [2] (gN 2) (tmYes) (eCall F_is_count (aCons (eVar 2) (aNil)) [.non]))))))) (sRaise "BadRow" ["value"] (aCons (eVar 0) (aNil))) (sNext))
    (sRet (eCall F_read_side_by_side (aCons (eVar 0) (aCons (eVar 1) (aNil))) [])))
def F_columns_of : Fn := mkF 3 B_columns_of
theorem sc_columns_of : FnScope ["numbers", "base", "n"] ["numbers", "base"] (defScope s_columns_of) := ⟨rfl, rfl, rfl, by decide +kernel, rfl, by decide +kernel, by decide +kernel⟩
theorem own_columns_of (C : Cst P w K mg) (D : DefAt K mg "columns_of" s_columns_of []) (o_need_base : Own P w K mg base 3 "need_base" ["base"] F_need_base []) (o_is_count : Own P w K mg base 2 "is_count" ["value", "most"] F_is_count [.non]) (o_is_row : Own P w K mg base 1 "is_row" ["value"] F_is_row []) (o_read_side_by_side : Own P w K mg base 2 "read_side_by_side" ["numbers", "base"] F_read_side_by_side []) : Own P w K mg base 4 "columns_of" ["numbers", "base"] F_columns_of [] := by
  obtain ⟨f, fd, F, hm⟩ := D
  have nd : (["numbers", "base", "n"] : List Str).Nodup := sc_columns_of.nd
  refine ⟨rfl, f, fd, ok_fnD (k := 3) (N := ["numbers", "base", "n"]) (ps := ["numbers", "base"]) (sm := B_columns_of) F sc_columns_of (fun cdv A outer s H E hr => ?_), hm, F.kp, fun j hj => ?_⟩
  · have tk : Takes (cxOf (L2.CX P w) P w K mg base ["numbers", "base", "n"] "columns_of" (defScope s_columns_of) f cdv A outer s H E) (fun cls d _ H => E cls d H) := takes_of rfl rfl rfl rfl
    exact (dss_cons (ds_expr (de_own (j := 0) (dds := []) o_need_base rfl (by decide) (hr.mono (by decide)) tk (da_cons (de_var 1) da_nil) (ln_def (ln_cons ln_nil) rfl)))
    (dss_cons (ds_if (dt_w (dw_or (dt_not (dt_truth (de_own (j := 0) (dds := []) o_is_row rfl (by decide) (hr.mono (by decide)) tk (da_cons (de_var 0) da_nil) (ln_def (ln_cons ln_nil) rfl)).q)) (dw_or1 (dt_not (dt_truth (de_callB (cr_all rfl) l_all (by rfl) C.m_all Pd.boot_all ((df_comp (js := []) (own := [("n", 2)]) rfl nd (di_any (de_var 0)) (blkOk_by (own := [("n", 2)]) (by kernel_rfl)) (fun _ _ _ _ _ => (dg_name (i := 2) nd rfl)) (fun _ _ _ _ _ => dts_nil) (fun _ _ _ _ _ => (de_own (j := 0) (dds := [.non]) o_is_count rfl (by decide) (hr.mono (by decide)) L2.takes0 (da_cons (de_var 2) da_nil) (ln_def (ln_cons ln_nil) rfl))))).e.q).q))))) (dss_one (let ⟨_, _, _, _, T, I⟩ := C.x_BadRow; ds_raise (k := 0) rfl tk T I (hr.mono (by decide)) (by decide) (da_cons (de_var 0) da_nil) rfl)) dss_nil)
    (dss_one (ds_ret (de_own (j := 0) (dds := []) o_read_side_by_side rfl (by decide) (hr.mono (by decide)) tk (da_cons (de_var 0) (da_cons (de_var 1) da_nil)) (ln_def (ln_cons (ln_cons ln_nil)) rfl))))))
  · exact by
      obtain rfl : j = 0 := by simpa using hj
      exact ⟨[], .nil, F.bindsN fun kV doc pm an cdv ct us hl => match us, hl with | [_, _], _ => rfl⟩
def B_need_machine : SM := sIf (tmNot (tmE (eUn (isiC cs "Machine") (eLook 0)))) (sRaise "BadItem" ["value"] (aCons (eVar 0) (aNil))) (sNext)
def F_need_machine : Fn := mkF 1 B_need_machine
theorem sc_need_machine : FnScope ["machine"] ["machine"] (defScope s_need_machine) := ⟨rfl, rfl, rfl, by decide +kernel, rfl, by decide +kernel, by decide +kernel⟩
theorem own_need_machine (C : Cst P w K mg) (D : DefAt K mg "need_machine" s_need_machine []) : Own P w K mg base 2 "need_machine" ["machine"] F_need_machine [] := by
  obtain ⟨f, fd, F, hm⟩ := D
  have nd : (["machine"] : List Str).Nodup := sc_need_machine.nd
  refine ⟨rfl, f, fd, ok_fnD (k := 1) (N := ["machine"]) (ps := ["machine"]) (sm := B_need_machine) F sc_need_machine (fun cdv A outer s H E hr => ?_), hm, F.kp, fun j hj => ?_⟩
  · have tk : Takes (cxOf (L2.CX P w) P w K mg base ["machine"] "need_machine" (defScope s_need_machine) f cdv A outer s H E) (fun cls d _ H => E cls d H) := takes_of rfl rfl rfl rfl
    exact (dss_one (ds_if (dt_not (dt_truth (de_isiC C.T rfl (by rfl) C.m_isinstance Pd.boot_isinstance (by rfl) (dq_var 0)).q)) (dss_one (let ⟨_, _, _, _, T, I⟩ := C.x_BadItem; ds_raise (k := 0) rfl tk T I (hr.mono (by decide)) (by decide) (da_cons (de_var 0) da_nil) rfl)) dss_nil))
  · exact by
      obtain rfl : j = 0 := by simpa using hj
      exact ⟨[], .nil, F.bindsN fun kV doc pm an cdv ct us hl => match us, hl with | [_], _ => rfl⟩
def B_reached_state : SM := sSeq (sAsg (eC (.int 0)) (gN 2))
    (sSeq (sFor (iAny (eVar 1)) (gN 3) (sAsg (eBin ixD (eBin ixD (eUn (fldD cs "steps") (eVar 0)) (eLook 2)) (eLook 3)) (gN 2)))
    (sRet (eVar 2)))
def F_reached_state : Fn := mkF 4 B_reached_state
theorem sc_reached_state : FnScope ["machine", "writing", "here", "column"] ["machine", "writing"] (defScope s_reached_state) := ⟨rfl, rfl, rfl, by decide +kernel, rfl, by decide +kernel, by decide +kernel⟩
theorem own_reached_state (C : Cst P w K mg) (D : DefAt K mg "reached_state" s_reached_state []) : Own P w K mg base 1 "reached_state" ["machine", "writing"] F_reached_state [] := by
  obtain ⟨f, fd, F, hm⟩ := D
  have nd : (["machine", "writing", "here", "column"] : List Str).Nodup := sc_reached_state.nd
  refine ⟨rfl, f, fd, ok_fnD (k := 0) (N := ["machine", "writing", "here", "column"]) (ps := ["machine", "writing"]) (sm := B_reached_state) F sc_reached_state (fun cdv A outer s H E hr => ?_), hm, F.kp, fun j hj => ?_⟩
  · have tk : Takes (cxOf (L2.CX P w) P w K mg base ["machine", "writing", "here", "column"] "reached_state" (defScope s_reached_state) f cdv A outer s H E) (fun cls d _ H => E cls d H) := takes_of rfl rfl rfl rfl
    exact (dss_cons (ds_set (i := 2) nd de_int)
    (dss_cons (ds_for (L2.passes_of rfl) rfl (di_any (de_var 1)) (dg_name (i := 3) nd rfl) (dss_one (ds_set (i := 2) nd (de_ix (de_ix (de_fld C.T (de_var 0)) (dq_var 2)) (dq_var 3)))))
    (dss_one (ds_ret (de_var 2)))))
  · exact by
      obtain rfl : j = 0 := by simpa using hj
      exact ⟨[], .nil, F.bindsN fun kV doc pm an cdv ct us hl => match us, hl with | [_, _], _ => rfl⟩
def B_accepts_writing : SM := sSeq (sExpr (eCall F_need_machine (aCons (eVar 0) (aNil)) []))
    (sSeq (sAsg (eCall F_power_of (aCons (eUn (fldD cs "base") (eVar 0)) (aCons (eUn lenD (eUn (fldD cs "letters") (eVar 0))) (aNil))) []) (gN 2))
    (sSeq (sIf (tmOr (tmNot (tmE (eCall F_is_row (aCons (eVar 1) (aNil)) []))) (tmNot (tmE (eUn allD (eF (fComp [] (iAny (eVar 1)) [3] (gN 3) (tmYes) (eAnd (eCall F_is_integer (aCons (eVar 3) (aNil)) []) (eChain leD ltD (eC (.int 0)) (eVar 3) (eLook 2))))))))) (sRaise "BadWriting" ["value"] (aCons (eVar 1) (aNil))) (sNext))
    (sRet (eBin eqD (eBin ixD (eUn (fldD cs "ends") (eVar 0)) (eCall F_reached_state (aCons (eVar 0) (aCons (eVar 1) (aNil))) [])) (eC (.int 1))))))
def F_accepts_writing : Fn := mkF 4 B_accepts_writing
theorem sc_accepts_writing : FnScope ["machine", "writing", "columns", "item"] ["machine", "writing"] (defScope s_accepts_writing) := ⟨rfl, rfl, rfl, by decide +kernel, rfl, by decide +kernel, by decide +kernel⟩
theorem own_accepts_writing (C : Cst P w K mg) (D : DefAt K mg "accepts_writing" s_accepts_writing []) (o_need_machine : Own P w K mg base 2 "need_machine" ["machine"] F_need_machine []) (o_power_of : Own P w K mg base 1 "power_of" ["base", "k"] F_power_of []) (o_is_integer : Own P w K mg base 1 "is_integer" ["value"] F_is_integer []) (o_is_row : Own P w K mg base 1 "is_row" ["value"] F_is_row []) (o_reached_state : Own P w K mg base 1 "reached_state" ["machine", "writing"] F_reached_state []) : Own P w K mg base 3 "accepts_writing" ["machine", "writing"] F_accepts_writing [] := by
  obtain ⟨f, fd, F, hm⟩ := D
  have nd : (["machine", "writing", "columns", "item"] : List Str).Nodup := sc_accepts_writing.nd
  refine ⟨rfl, f, fd, ok_fnD (k := 2) (N := ["machine", "writing", "columns", "item"]) (ps := ["machine", "writing"]) (sm := B_accepts_writing) F sc_accepts_writing (fun cdv A outer s H E hr => ?_), hm, F.kp, fun j hj => ?_⟩
  · have tk : Takes (cxOf (L2.CX P w) P w K mg base ["machine", "writing", "columns", "item"] "accepts_writing" (defScope s_accepts_writing) f cdv A outer s H E) (fun cls d _ H => E cls d H) := takes_of rfl rfl rfl rfl
    exact (dss_cons (ds_expr (de_own (j := 0) (dds := []) o_need_machine rfl (by decide) (hr.mono (by decide)) tk (da_cons (de_var 0) da_nil) (ln_def (ln_cons ln_nil) rfl)))
    (dss_cons (ds_set (i := 2) nd (de_own (j := 0) (dds := []) o_power_of rfl (by decide) (hr.mono (by decide)) tk (da_cons (de_fld C.T (de_var 0)) (da_cons (de_callB call_len l_len (by rfl) C.m_len Pd.boot_len (de_fld C.T (de_var 0)).q) da_nil)) (ln_def (ln_cons (ln_cons ln_nil)) rfl)))
    (dss_cons (ds_if (dt_w (dw_or (dt_not (dt_truth (de_own (j := 0) (dds := []) o_is_row rfl (by decide) (hr.mono (by decide)) tk (da_cons (de_var 1) da_nil) (ln_def (ln_cons ln_nil) rfl)).q)) (dw_or1 (dt_not (dt_truth (de_callB (cr_all rfl) l_all (by rfl) C.m_all Pd.boot_all ((df_comp (js := []) (own := [("item", 3)]) rfl nd (di_any (de_var 1)) (blkOk_by (own := [("item", 3)]) (by kernel_rfl)) (fun _ _ _ _ _ => (dg_name (i := 3) nd rfl)) (fun _ _ _ _ _ => dts_nil) (fun _ _ _ _ _ => (de_and (de_own (j := 0) (dds := []) o_is_integer rfl (by decide) (hr.mono (by decide)) L2.takes0 (da_cons (de_var 3) da_nil) (ln_def (ln_cons ln_nil) rfl)) (de_one (de_chain op_le l_le op_lt l_lt de_int (de_var 3) (dq_var 2))))))).e.q).q))))) (dss_one (let ⟨_, _, _, _, T, I⟩ := C.x_BadWriting; ds_raise (k := 0) rfl tk T I (hr.mono (by decide)) (by decide) (da_cons (de_var 1) da_nil) rfl)) dss_nil)
    (dss_one (ds_ret (de_cmp (op_eqD hr.units) l_eq (de_ix (de_fld C.T (de_var 0)) (de_own (j := 0) (dds := []) o_reached_state rfl (by decide) (hr.mono (by decide)) tk (da_cons (de_var 0) (da_cons (de_var 1) da_nil)) (ln_def (ln_cons (ln_cons ln_nil)) rfl)).q) de_int.q))))))
  · exact by
      obtain rfl : j = 0 := by simpa using hj
      exact ⟨[], .nil, F.bindsN fun kV doc pm an cdv ct us hl => match us, hl with | [_, _], _ => rfl⟩
def B_are_numbers : SM := sRet (eAnd (eCall F_is_row (aCons (eVar 0) (aNil)) []) (eAnd (eBin eqD (eUn lenD (eLook 0)) (eLook 1)) (eUn allD (eF (fComp [] (iAny (eVar 0)) [2] (gN 2) (tmYes) (eAnd (eCall F_is_integer (aCons (eVar 2) (aNil)) []) (eBin geD (eVar 2) (eC (.int 0)))))))))
def F_are_numbers : Fn := mkF 3 B_are_numbers
theorem sc_are_numbers : FnScope ["value", "many", "item"] ["value", "many"] (defScope s_are_numbers) := ⟨rfl, rfl, rfl, by decide +kernel, rfl, by decide +kernel, by decide +kernel⟩
theorem own_are_numbers (C : Cst P w K mg) (D : DefAt K mg "are_numbers" s_are_numbers []) (o_is_integer : Own P w K mg base 1 "is_integer" ["value"] F_is_integer []) (o_is_row : Own P w K mg base 1 "is_row" ["value"] F_is_row []) : Own P w K mg base 2 "are_numbers" ["value", "many"] F_are_numbers [] := by
  obtain ⟨f, fd, F, hm⟩ := D
  have nd : (["value", "many", "item"] : List Str).Nodup := sc_are_numbers.nd
  refine ⟨rfl, f, fd, ok_fnD (k := 1) (N := ["value", "many", "item"]) (ps := ["value", "many"]) (sm := B_are_numbers) F sc_are_numbers (fun cdv A outer s H E hr => ?_), hm, F.kp, fun j hj => ?_⟩
  · have tk : Takes (cxOf (L2.CX P w) P w K mg base ["value", "many", "item"] "are_numbers" (defScope s_are_numbers) f cdv A outer s H E) (fun cls d _ H => E cls d H) := takes_of rfl rfl rfl rfl
    exact (dss_one (ds_ret (de_and (de_own (j := 0) (dds := []) o_is_row rfl (by decide) (hr.mono (by decide)) tk (da_cons (de_var 0) da_nil) (ln_def (ln_cons ln_nil) rfl)) (de_and (de_cmp (op_eqD hr.units) l_eq (de_callB call_len l_len (by rfl) C.m_len Pd.boot_len (dq_var 0)) (dq_var 1)) (de_one (de_callB (cr_all rfl) l_all (by rfl) C.m_all Pd.boot_all ((df_comp (js := []) (own := [("item", 2)]) rfl nd (di_any (de_var 0)) (blkOk_by (own := [("item", 2)]) (by kernel_rfl)) (fun _ _ _ _ _ => (dg_name (i := 2) nd rfl)) (fun _ _ _ _ _ => dts_nil) (fun _ _ _ _ _ => (de_and (de_own (j := 0) (dds := []) o_is_integer rfl (by decide) (hr.mono (by decide)) L2.takes0 (da_cons (de_var 2) da_nil) (ln_def (ln_cons ln_nil) rfl)) (de_one (de_cmp op_ge l_ge (de_var 2) de_int.q)))))).e.q))))))
  · exact by
      obtain rfl : j = 0 := by simpa using hj
      exact ⟨[], .nil, F.bindsN fun kV doc pm an cdv ct us hl => match us, hl with | [_, _], _ => rfl⟩
def B_takes_numbers : SM := sRet (eBin eqD (eBin ixD (eUn (fldD cs "ends") (eVar 0)) (eCall F_reached_state (aCons (eVar 0) (aCons (eCall F_columns_of (aCons (eVar 1) (aCons (eUn (fldD cs "base") (eVar 0)) (aNil))) []) (aNil))) [])) (eC (.int 1)))
def F_takes_numbers : Fn := mkF 2 B_takes_numbers
theorem sc_takes_numbers : FnScope ["machine", "numbers"] ["machine", "numbers"] (defScope s_takes_numbers) := ⟨rfl, rfl, rfl, by decide +kernel, rfl, by decide +kernel, by decide +kernel⟩
theorem own_takes_numbers (C : Cst P w K mg) (D : DefAt K mg "takes_numbers" s_takes_numbers []) (o_reached_state : Own P w K mg base 1 "reached_state" ["machine", "writing"] F_reached_state []) (o_columns_of : Own P w K mg base 4 "columns_of" ["numbers", "base"] F_columns_of []) : Own P w K mg base 5 "takes_numbers" ["machine", "numbers"] F_takes_numbers [] := by
  obtain ⟨f, fd, F, hm⟩ := D
  have nd : (["machine", "numbers"] : List Str).Nodup := sc_takes_numbers.nd
  refine ⟨rfl, f, fd, ok_fnD (k := 4) (N := ["machine", "numbers"]) (ps := ["machine", "numbers"]) (sm := B_takes_numbers) F sc_takes_numbers (fun cdv A outer s H E hr => ?_), hm, F.kp, fun j hj => ?_⟩
  · have tk : Takes (cxOf (L2.CX P w) P w K mg base ["machine", "numbers"] "takes_numbers" (defScope s_takes_numbers) f cdv A outer s H E) (fun cls d _ H => E cls d H) := takes_of rfl rfl rfl rfl
    exact (dss_one (ds_ret (de_cmp (op_eqD hr.units) l_eq (de_ix (de_fld C.T (de_var 0)) (de_own (j := 0) (dds := []) o_reached_state rfl (by decide) (hr.mono (by decide)) tk (da_cons (de_var 0) (da_cons (de_own (j := 0) (dds := []) o_columns_of rfl (by decide) (hr.mono (by decide)) tk (da_cons (de_var 1) (da_cons (de_fld C.T (de_var 0)) da_nil)) (ln_def (ln_cons (ln_cons ln_nil)) rfl)) da_nil)) (ln_def (ln_cons (ln_cons ln_nil)) rfl)).q) de_int.q)))
  · exact by
      obtain rfl : j = 0 := by simpa using hj
      exact ⟨[], .nil, F.bindsN fun kV doc pm an cdv ct us hl => match us, hl with | [_, _], _ => rfl⟩
def B_accepts : SM := sSeq (sExpr (eCall F_need_machine (aCons (eVar 0) (aNil)) []))
    (sSeq (sIf (tmNot (tmE (eCall F_are_numbers (aCons (eVar 1) (aCons (eUn lenD (eUn (fldD cs "letters") (eVar 0))) (aNil))) []))) (sRaise "BadNumbers" ["value"] (aCons (eVar 1) (aNil))) (sNext))
    (sRet (eCall F_takes_numbers (aCons (eVar 0) (aCons (eVar 1) (aNil))) [])))
def F_accepts : Fn := mkF 2 B_accepts
theorem sc_accepts : FnScope ["machine", "numbers"] ["machine", "numbers"] (defScope s_accepts) := ⟨rfl, rfl, rfl, by decide +kernel, rfl, by decide +kernel, by decide +kernel⟩
theorem own_accepts (C : Cst P w K mg) (D : DefAt K mg "accepts" s_accepts []) (o_need_machine : Own P w K mg base 2 "need_machine" ["machine"] F_need_machine []) (o_are_numbers : Own P w K mg base 2 "are_numbers" ["value", "many"] F_are_numbers []) (o_takes_numbers : Own P w K mg base 5 "takes_numbers" ["machine", "numbers"] F_takes_numbers []) : Own P w K mg base 6 "accepts" ["machine", "numbers"] F_accepts [] := by
  obtain ⟨f, fd, F, hm⟩ := D
  have nd : (["machine", "numbers"] : List Str).Nodup := sc_accepts.nd
  refine ⟨rfl, f, fd, ok_fnD (k := 5) (N := ["machine", "numbers"]) (ps := ["machine", "numbers"]) (sm := B_accepts) F sc_accepts (fun cdv A outer s H E hr => ?_), hm, F.kp, fun j hj => ?_⟩
  · have tk : Takes (cxOf (L2.CX P w) P w K mg base ["machine", "numbers"] "accepts" (defScope s_accepts) f cdv A outer s H E) (fun cls d _ H => E cls d H) := takes_of rfl rfl rfl rfl
    exact (dss_cons (ds_expr (de_own (j := 0) (dds := []) o_need_machine rfl (by decide) (hr.mono (by decide)) tk (da_cons (de_var 0) da_nil) (ln_def (ln_cons ln_nil) rfl)))
    (dss_cons (ds_if (dt_not (dt_truth (de_own (j := 0) (dds := []) o_are_numbers rfl (by decide) (hr.mono (by decide)) tk (da_cons (de_var 1) (da_cons (de_callB call_len l_len (by rfl) C.m_len Pd.boot_len (de_fld C.T (de_var 0)).q) da_nil)) (ln_def (ln_cons (ln_cons ln_nil)) rfl)).q)) (dss_one (let ⟨_, _, _, _, T, I⟩ := C.x_BadNumbers; ds_raise (k := 0) rfl tk T I (hr.mono (by decide)) (by decide) (da_cons (de_var 1) da_nil) rfl)) dss_nil)
    (dss_one (ds_ret (de_own (j := 0) (dds := []) o_takes_numbers rfl (by decide) (hr.mono (by decide)) tk (da_cons (de_var 0) (da_cons (de_var 1) da_nil)) (ln_def (ln_cons (ln_cons ln_nil)) rfl))))))
  · exact by
      obtain rfl : j = 0 := by simpa using hj
      exact ⟨[], .nil, F.bindsN fun kV doc pm an cdv ct us hl => match us, hl with | [_, _], _ => rfl⟩
def B__law_draw : SM := sSeq (sPen 0 "count" (eBin addD (ePen 0 "count") (eC (.int 1))))
    (sSeq (sIf (tmAnd (tmB (eBin eqD (ePen 0 "digits") (eC (.int 0)))) (tmB (eBin ltD (ePen 0 "at") (eUn lenD (ePen 0 "cells"))))) (sSeq (sAsg (eBin ixD (ePen 0 "cells") (ePen 0 "at")) (gN 3))
    (sSeq (sPen 0 "at" (eBin addD (ePen 0 "at") (eC (.int 1))))
    (sIf (tmB (eBin geD (eVar 3) (eBin powD (eC (.int 10)) (eC (.int 18))))) (sPen 0 "digits" (eBin subD (eVar 3) (eBin powD (eC (.int 10)) (eC (.int 18))))) (sPen 0 "fold" (eBin modD (eUn intD (eBin addD (eBin mulD3 (ePen 0 "fold") (eC (.int 69069))) (eLook 3))) (eC (.int 2147483587))))))) (sNext))
    (sSeq (sIf (tmB (eBin gtD (ePen 0 "digits") (eC (.int 0)))) (sSeq (sAsg (eBin modD (eUn intD (ePen 0 "digits")) (eLook 1)) (gN 4))
    (sSeq (sPen 0 "digits" (eBin divD (ePen 0 "digits") (eLook 1)))
    (sRet (eVar 4)))) (sNext))
    (sSeq (sAsg (eBin addD (eBin addD (ePen 0 "fold") (eBin mulD3 (ePen 0 "count") (eC (.int 7907)))) (eC (.int 37))) (gN 2))
    (sRet (eBin modD (eBin divD (eUn intD (eBin modD (eBin powD (eVar 2) (eC (.int 17))) (eC (.int 2305843009213693951)))) (eC (.int 128))) (eLook 1))))))
def F__law_draw : Fn := mkF 5 B__law_draw
theorem sc__law_draw : FnScope ["pen", "many", "mixed", "cell", "digit"] ["pen", "many"] (defScope s__law_draw) := ⟨rfl, rfl, rfl, by decide +kernel, rfl, by decide +kernel, by decide +kernel⟩
theorem own__law_draw (C : Cst P w K mg) (D : DefAt K mg "_law_draw" s__law_draw []) : Own P w K mg base 1 "_law_draw" ["pen", "many"] F__law_draw [] := by
  obtain ⟨f, fd, F, hm⟩ := D
  have nd : (["pen", "many", "mixed", "cell", "digit"] : List Str).Nodup := sc__law_draw.nd
  refine ⟨rfl, f, fd, ok_fnD (k := 0) (N := ["pen", "many", "mixed", "cell", "digit"]) (ps := ["pen", "many"]) (sm := B__law_draw) F sc__law_draw (fun cdv A outer s H E hr => ?_), hm, F.kp, fun j hj => ?_⟩
  · have tk : Takes (cxOf (L2.CX P w) P w K mg base ["pen", "many", "mixed", "cell", "digit"] "_law_draw" (defScope s__law_draw) f cdv A outer s H E) (fun cls d _ H => E cls d H) := takes_of rfl rfl rfl rfl
    exact (dss_cons (ds_pen 0 (hu1 hr) (de_bin op_add4 l_add (de_pen 0 (hu1 hr)) de_int.q))
    (dss_cons (ds_if (dt_w (dw_and (dt_cmp (op_eqD hr.units) l_eq (de_pen 0 (hu1 hr)) de_int.q) (dw_and1 (dt_cmp op_lt l_lt (de_pen 0 (hu1 hr)) (de_callB call_len l_len (by rfl) C.m_len Pd.boot_len (de_pen 0 (hu1 hr)).q).q)))) (dss_cons (ds_set (i := 3) nd (de_ix (de_pen 0 (hu1 hr)) (de_pen 0 (hu1 hr)).q))
    (dss_cons (ds_pen 0 (hu1 hr) (de_bin op_add4 l_add (de_pen 0 (hu1 hr)) de_int.q))
    (dss_one (ds_if (dt_cmp op_ge l_ge (de_var 3) (de_bin op_pow l_pow de_int de_int.q).q) (dss_one (ds_pen 0 (hu1 hr) (de_bin op_sub l_sub (de_var 3) (de_bin op_pow l_pow de_int de_int.q).q))) (dss_one (ds_pen 0 (hu1 hr) (de_bin op_mod l_mod (de_callTy call_int1 l_int (by rfl) C.m_int Pd.boot_int (de_bin op_add4 l_add (de_bin op_mul4 l_mul3 (de_pen 0 (hu1 hr)) de_int.q) (dq_var 3)).q) de_int.q))))))) dss_nil)
    (dss_cons (ds_if (dt_cmp op_gt l_gt (de_pen 0 (hu1 hr)) de_int.q) (dss_cons (ds_set (i := 4) nd (de_bin op_mod l_mod (de_callTy call_int1 l_int (by rfl) C.m_int Pd.boot_int (de_pen 0 (hu1 hr)).q) (dq_var 1)))
    (dss_cons (ds_pen 0 (hu1 hr) (de_bin op_fdivW l_div (de_pen 0 (hu1 hr)) (dq_var 1)))
    (dss_one (ds_ret (de_var 4))))) dss_nil)
    (dss_cons (ds_set (i := 2) nd (de_bin op_add4 l_add (de_bin op_add4 l_add (de_pen 0 (hu1 hr)) (de_bin op_mul4 l_mul3 (de_pen 0 (hu1 hr)) de_int.q).q) de_int.q))
    (dss_one (ds_ret (de_bin op_mod l_mod (de_bin op_fdivW l_div (de_callTy call_int1 l_int (by rfl) C.m_int Pd.boot_int (de_bin op_mod l_mod (de_bin op_pow l_pow (de_var 2) de_int.q) de_int.q).q) de_int.q) (dq_var 1))))))))
  · exact by
      obtain rfl : j = 0 := by simpa using hj
      exact ⟨[], .nil, F.bindsN fun kV doc pm an cdv ct us hl => match us, hl with | [_, _], _ => rfl⟩
def B__law_pick : SM := sRet (eBin ixD (eVar 1) (eCall F__law_draw (aCons (eVar 0) (aCons (eUn lenD (eLook 1)) (aNil))) []))
def F__law_pick : Fn := mkF 2 B__law_pick
theorem sc__law_pick : FnScope ["pen", "some"] ["pen", "some"] (defScope s__law_pick) := ⟨rfl, rfl, rfl, by decide +kernel, rfl, by decide +kernel, by decide +kernel⟩
theorem own__law_pick (C : Cst P w K mg) (D : DefAt K mg "_law_pick" s__law_pick []) (o__law_draw : Own P w K mg base 1 "_law_draw" ["pen", "many"] F__law_draw []) : Own P w K mg base 2 "_law_pick" ["pen", "some"] F__law_pick [] := by
  obtain ⟨f, fd, F, hm⟩ := D
  have nd : (["pen", "some"] : List Str).Nodup := sc__law_pick.nd
  refine ⟨rfl, f, fd, ok_fnD (k := 1) (N := ["pen", "some"]) (ps := ["pen", "some"]) (sm := B__law_pick) F sc__law_pick (fun cdv A outer s H E hr => ?_), hm, F.kp, fun j hj => ?_⟩
  · have tk : Takes (cxOf (L2.CX P w) P w K mg base ["pen", "some"] "_law_pick" (defScope s__law_pick) f cdv A outer s H E) (fun cls d _ H => E cls d H) := takes_of rfl rfl rfl rfl
    exact (dss_one (ds_ret (de_ix (de_var 1) (de_own (j := 0) (dds := []) o__law_draw rfl (by decide) (hr.mono (by decide)) tk (da_cons (de_var 0) (da_cons (de_callB call_len l_len (by rfl) C.m_len Pd.boot_len (dq_var 1)) da_nil)) (ln_def (ln_cons (ln_cons ln_nil)) rfl)).q)))
  · exact by
      obtain rfl : j = 0 := by simpa using hj
      exact ⟨[], .nil, F.bindsN fun kV doc pm an cdv ct us hl => match us, hl with | [_, _], _ => rfl⟩
def B__law_shuffled : SM := sSeq (sParL (fList (eLook 1)) (fLst (aNil)) 2 3)
    (sSeq (sFor (iRange1 (aCons (eUn lenD (eLook 1)) (aNil))) (gN 4) (sAppend 3 (ePop 2 (eCall F__law_draw (aCons (eVar 0) (aCons (eUn lenD (eLook 2)) (aNil))) []))))
    (sRet (eVar 3)))
def F__law_shuffled : Fn := mkF 5 B__law_shuffled
theorem sc__law_shuffled : FnScope ["pen", "some", "left", "found", "lap"] ["pen", "some"] (defScope s__law_shuffled) := ⟨rfl, rfl, rfl, by decide +kernel, rfl, by decide +kernel, by decide +kernel⟩
theorem own__law_shuffled (C : Cst P w K mg) (D : DefAt K mg "_law_shuffled" s__law_shuffled []) (o__law_draw : Own P w K mg base 1 "_law_draw" ["pen", "many"] F__law_draw []) : Own P w K mg base 2 "_law_shuffled" ["pen", "some"] F__law_shuffled [] := by
  obtain ⟨f, fd, F, hm⟩ := D
  have nd : (["pen", "some", "left", "found", "lap"] : List Str).Nodup := sc__law_shuffled.nd
  refine ⟨rfl, f, fd, ok_fnD (k := 1) (N := ["pen", "some", "left", "found", "lap"]) (ps := ["pen", "some"]) (sm := B__law_shuffled) F sc__law_shuffled (fun cdv A outer s H E hr => ?_), hm, F.kp, fun j hj => ?_⟩
  · have tk : Takes (cxOf (L2.CX P w) P w K mg base ["pen", "some", "left", "found", "lap"] "_law_shuffled" (defScope s__law_shuffled) f cdv A outer s H E) (fun cls d _ H => E cls d H) := takes_of rfl rfl rfl rfl
    exact (dss_cons (ds_parL (i := 2) (j := 3) rfl nd (df_list (by rfl) C.m_list Pd.boot_list (dq_var 1)) (df_lst da_nil) (by decide))
    (dss_cons (ds_for (L2.passes_of rfl) rfl (di_range1 (by rfl) C.m_range (da_cons (de_callB call_len l_len (by rfl) C.m_len Pd.boot_len (dq_var 1)) da_nil)) (dg_name (i := 4) nd rfl) (dss_one (ds_append (j := 3) (de_pop (pos := ⟨0, 0, 0, 0⟩) (j := 2) (de_own (j := 0) (dds := []) o__law_draw rfl (by decide) (hr.mono (by decide)) tk (da_cons (de_var 0) (da_cons (de_callB call_len l_len (by rfl) C.m_len Pd.boot_len (dq_var 2)) da_nil)) (ln_def (ln_cons (ln_cons ln_nil)) rfl)) (hm := fun t h => pe_bm PySem.F.plainAttrs_list PySem.F.slot_list_pop PySem.F.type_list_pop mt_popAt (pv 2) (pa_cons h pa_nil))) (hm := fun t h => pe_bm PySem.F.plainAttrs_list PySem.F.slot_list_append PySem.F.type_list_append mt_append (pv 3) (pa_cons h pa_nil)))))
    (dss_one (ds_ret (de_var 3)))))
  · exact by
      obtain rfl : j = 0 := by simpa using hj
      exact ⟨[], .nil, F.bindsN fun kV doc pm an cdv ct us hl => match us, hl with | [_, _], _ => rfl⟩
def B__law_listed : SM := sRet (eIf (tmB (eBin eqD (eCall F__law_draw (aCons (eVar 0) (aCons (eC (.int 2)) (aNil))) []) (eC (.int 0)))) (eF (fList (eLook 1))) (eUn tupleD (eLook 1)))
def F__law_listed : Fn := mkF 2 B__law_listed
theorem sc__law_listed : FnScope ["pen", "row"] ["pen", "row"] (defScope s__law_listed) := ⟨rfl, rfl, rfl, by decide +kernel, rfl, by decide +kernel, by decide +kernel⟩
theorem own__law_listed (C : Cst P w K mg) (D : DefAt K mg "_law_listed" s__law_listed []) (o__law_draw : Own P w K mg base 1 "_law_draw" ["pen", "many"] F__law_draw []) : Own P w K mg base 2 "_law_listed" ["pen", "row"] F__law_listed [] := by
  obtain ⟨f, fd, F, hm⟩ := D
  have nd : (["pen", "row"] : List Str).Nodup := sc__law_listed.nd
  refine ⟨rfl, f, fd, ok_fnD (k := 1) (N := ["pen", "row"]) (ps := ["pen", "row"]) (sm := B__law_listed) F sc__law_listed (fun cdv A outer s H E hr => ?_), hm, F.kp, fun j hj => ?_⟩
  · have tk : Takes (cxOf (L2.CX P w) P w K mg base ["pen", "row"] "_law_listed" (defScope s__law_listed) f cdv A outer s H E) (fun cls d _ H => E cls d H) := takes_of rfl rfl rfl rfl
    exact (dss_one (ds_ret (de_if (dt_cmp (op_eqD hr.units) l_eq (de_own (j := 0) (dds := []) o__law_draw rfl (by decide) (hr.mono (by decide)) tk (da_cons (de_var 0) (da_cons de_int da_nil)) (ln_def (ln_cons (ln_cons ln_nil)) rfl)) de_int.q) ((df_list (by rfl) C.m_list Pd.boot_list (dq_var 1))).e (de_callTy call_tuple_of l_tuple (by rfl) C.m_tuple Pd.boot_tuple (dq_var 1)))))
  · exact by
      obtain rfl : j = 0 := by simpa using hj
      exact ⟨[], .nil, F.bindsN fun kV doc pm an cdv ct us hl => match us, hl with | [_, _], _ => rfl⟩
def B__law_is_truth : SM := sRet (eAnd (eUn (isiD "bool") (eLook 0)) (eBin eqD (eVar 0) (eLook 1)))
def F__law_is_truth : Fn := mkF 2 B__law_is_truth
theorem sc__law_is_truth : FnScope ["value", "due"] ["value", "due"] (defScope s__law_is_truth) := ⟨rfl, rfl, rfl, by decide +kernel, rfl, by decide +kernel, by decide +kernel⟩
theorem own__law_is_truth (C : Cst P w K mg) (D : DefAt K mg "_law_is_truth" s__law_is_truth []) : Own P w K mg base 1 "_law_is_truth" ["value", "due"] F__law_is_truth [] := by
  obtain ⟨f, fd, F, hm⟩ := D
  have nd : (["value", "due"] : List Str).Nodup := sc__law_is_truth.nd
  refine ⟨rfl, f, fd, ok_fnD (k := 0) (N := ["value", "due"]) (ps := ["value", "due"]) (sm := B__law_is_truth) F sc__law_is_truth (fun cdv A outer s H E hr => ?_), hm, F.kp, fun j hj => ?_⟩
  · have tk : Takes (cxOf (L2.CX P w) P w K mg base ["value", "due"] "_law_is_truth" (defScope s__law_is_truth) f cdv A outer s H E) (fun cls d _ H => E cls d H) := takes_of rfl rfl rfl rfl
    exact (dss_one (ds_ret (de_and (de_isi (by rfl) C.m_isinstance Pd.boot_isinstance (by rfl) C.m_bool Pd.boot_bool (dq_var 0)) (de_one (de_cmp (op_eqD hr.units) l_eq (de_var 0) (dq_var 1))))))
  · exact by
      obtain rfl : j = 0 := by simpa using hj
      exact ⟨[], .nil, F.bindsN fun kV doc pm an cdv ct us hl => match us, hl with | [_, _], _ => rfl⟩
def B__law_digits : SM := sSeq (sAsg (eF (fLst (aNil))) (gN 2))
    (sSeq (sWhile (tmB (eBin gtD (eVar 0) (eC (.int 0)))) (sPar (eBin addD (eF (fLst (aCons (eBin modD (eVar 0) (eLook 1)) (aNil)))) (eLook 2)) (eBin divD (eVar 0) (eLook 1)) 2 0))
    (sRet (eVar 2)))
def F__law_digits : Fn := mkF 3 B__law_digits
theorem sc__law_digits : FnScope ["n", "base", "found"] ["n", "base"] (defScope s__law_digits) := ⟨rfl, rfl, rfl, by decide +kernel, rfl, by decide +kernel, by decide +kernel⟩
theorem own__law_digits (C : Cst P w K mg) (D : DefAt K mg "_law_digits" s__law_digits []) : Own P w K mg base 1 "_law_digits" ["n", "base"] F__law_digits [] := by
  obtain ⟨f, fd, F, hm⟩ := D
  have nd : (["n", "base", "found"] : List Str).Nodup := sc__law_digits.nd
  refine ⟨rfl, f, fd, ok_fnD (k := 0) (N := ["n", "base", "found"]) (ps := ["n", "base"]) (sm := B__law_digits) F sc__law_digits (fun cdv A outer s H E hr => ?_), hm, F.kp, fun j hj => ?_⟩
  · have tk : Takes (cxOf (L2.CX P w) P w K mg base ["n", "base", "found"] "_law_digits" (defScope s__law_digits) f cdv A outer s H E) (fun cls d _ H => E cls d H) := takes_of rfl rfl rfl rfl
    exact (dss_cons (ds_set (i := 2) nd ((df_lst da_nil)).e)
    (dss_cons (ds_while (L2.passes_of rfl) (dt_cmp op_gt l_gt (de_var 0) de_int.q) (dss_one (ds_par (i := 2) (j := 0) rfl nd (de_bin op_add4 l_add ((df_lst (da_cons (de_bin op_mod l_mod (de_var 0) (dq_var 1)) da_nil))).e (dq_var 2)) (de_bin op_fdivW l_div (de_var 0) (dq_var 1)) (by decide))))
    (dss_one (ds_ret (de_var 2)))))
  · exact by
      obtain rfl : j = 0 := by simpa using hj
      exact ⟨[], .nil, F.bindsN fun kV doc pm an cdv ct us hl => match us, hl with | [_, _], _ => rfl⟩
def B__law_columns : SM := sSeq (sOwn (fComp [] (iAny (eVar 0)) [9] (gN 9) (tmYes) (eCall F__law_digits (aCons (eVar 9) (aCons (eVar 1) (aNil))) [])) 2)
    (sSeq (sAsg (eUn maxD (eBin addD (eF (fLst (aCons (eC (.int 0)) (aNil)))) (eF (fComp [] (iAny (eVar 2)) [7] (gN 7) (tmYes) (eUn lenD (eLook 7)))))) (gN 3))
    (sSeq (sOwn (fLst (aNil)) 4)
    (sSeq (sFor (iRange1 (aCons (eVar 3) (aNil))) (gN 5) (sSeq (sAsg (eC (.int 0)) (gN 6))
    (sSeq (sFor (iAny (eVar 2)) (gN 7) (sSeq (sAsg (eBin subD (eVar 5) (eBin subD (eVar 3) (eUn lenD (eLook 7)))) (gN 8))
    (sAsg (eBin addD (eBin mulD3 (eVar 6) (eLook 1)) (eIf (tmB (eBin geD (eVar 8) (eC (.int 0)))) (eBin ixD (eVar 7) (eLook 8)) (eC (.int 0)))) (gN 6))))
    (sAppend 4 (eVar 6)))))
    (sRet (eVar 4)))))
def F__law_columns : Fn := mkF 10 B__law_columns
theorem sc__law_columns : FnScope ["numbers", "base", "rows", "long", "found", "at", "index", "row", "place", "n"] ["numbers", "base"] (defScope s__law_columns) := ⟨rfl, rfl, rfl, by decide +kernel, rfl, by decide +kernel, by decide +kernel⟩
theorem own__law_columns (C : Cst P w K mg) (D : DefAt K mg "_law_columns" s__law_columns []) (o__law_digits : Own P w K mg base 1 "_law_digits" ["n", "base"] F__law_digits []) : Own P w K mg base 2 "_law_columns" ["numbers", "base"] F__law_columns [] := by
  obtain ⟨f, fd, F, hm⟩ := D
  have nd : (["numbers", "base", "rows", "long", "found", "at", "index", "row", "place", "n"] : List Str).Nodup := sc__law_columns.nd
  refine ⟨rfl, f, fd, ok_fnD (k := 1) (N := ["numbers", "base", "rows", "long", "found", "at", "index", "row", "place", "n"]) (ps := ["numbers", "base"]) (sm := B__law_columns) F sc__law_columns (fun cdv A outer s H E hr => ?_), hm, F.kp, fun j hj => ?_⟩
  · have tk : Takes (cxOf (L2.CX P w) P w K mg base ["numbers", "base", "rows", "long", "found", "at", "index", "row", "place", "n"] "_law_columns" (defScope s__law_columns) f cdv A outer s H E) (fun cls d _ H => E cls d H) := takes_of rfl rfl rfl rfl
    exact (dss_cons (ds_setComp (i := 2) (js := []) (own := [("n", 9)]) rfl nd rfl (by rfl) (di_any (de_var 0)) (blkOk_by (own := [("n", 9)]) (by kernel_rfl)) (fun _ _ _ _ _ => (dg_name (i := 9) nd rfl)) (fun _ _ _ _ _ => dts_nil) (fun _ _ _ _ _ => (de_own (j := 0) (dds := []) o__law_digits rfl (by decide) (hr.mono (by decide)) L2.takes0 (da_cons (de_var 9) (da_cons (de_var 1) da_nil)) (ln_def (ln_cons (ln_cons ln_nil)) rfl))))
    (dss_cons (ds_set (i := 3) nd (de_callB (cr_max rfl) l_max (by rfl) C.m_max Pd.boot_max (de_bin op_add4 l_add ((df_lst (da_cons de_int da_nil))).e ((df_comp (js := []) (own := [("row", 7)]) rfl nd (di_any (de_var 2)) (blkOk_by (own := [("row", 7)]) (by kernel_rfl)) (fun _ _ _ _ _ => (dg_name (i := 7) nd rfl)) (fun _ _ _ _ _ => dts_nil) (fun _ _ _ _ _ => (de_callB call_len l_len (by rfl) C.m_len Pd.boot_len (dq_var 7))))).e.q).q))
    (dss_cons (ds_own (i := 4) nd (df_lst da_nil))
    (dss_cons (ds_for (L2.passes_of rfl) rfl (di_range1 (by rfl) C.m_range (da_cons (de_var 3) da_nil)) (dg_name (i := 5) nd rfl) (dss_cons (ds_set (i := 6) nd de_int)
    (dss_cons (ds_for (L2.passes_of rfl) rfl (di_any (de_var 2)) (dg_name (i := 7) nd rfl) (dss_cons (ds_set (i := 8) nd (de_bin op_sub l_sub (de_var 5) (de_bin op_sub l_sub (de_var 3) (de_callB call_len l_len (by rfl) C.m_len Pd.boot_len (dq_var 7)).q).q))
    (dss_one (ds_set (i := 6) nd (de_bin op_add4 l_add (de_bin op_mul4 l_mul3 (de_var 6) (dq_var 1)) (de_if (dt_cmp op_ge l_ge (de_var 8) de_int.q) (de_ix (de_var 7) (dq_var 8)) de_int).q)))))
    (dss_one (ds_append (j := 4) (de_var 6) (hm := fun t h => pe_bm PySem.F.plainAttrs_list PySem.F.slot_list_append PySem.F.type_list_append mt_append (pv 4) (pa_cons h pa_nil)))))))
    (dss_one (ds_ret (de_var 4)))))))
  · exact by
      obtain rfl : j = 0 := by simpa using hj
      exact ⟨[], .nil, F.bindsN fun kV doc pm an cdv ct us hl => match us, hl with | [_, _], _ => rfl⟩
def B__law_led : SM := sSeq (sAsg (eC (.int 0)) (gN 2))
    (sSeq (sFor (iAny (eVar 1)) (gN 3) (sAsg (eBin ixD (eBin ixD (eVar 0) (eLook 2)) (eLook 3)) (gN 2)))
    (sRet (eVar 2)))
def F__law_led : Fn := mkF 4 B__law_led
theorem sc__law_led : FnScope ["steps", "writing", "here", "column"] ["steps", "writing"] (defScope s__law_led) := ⟨rfl, rfl, rfl, by decide +kernel, rfl, by decide +kernel, by decide +kernel⟩
theorem own__law_led (C : Cst P w K mg) (D : DefAt K mg "_law_led" s__law_led []) : Own P w K mg base 1 "_law_led" ["steps", "writing"] F__law_led [] := by
  obtain ⟨f, fd, F, hm⟩ := D
  have nd : (["steps", "writing", "here", "column"] : List Str).Nodup := sc__law_led.nd
  refine ⟨rfl, f, fd, ok_fnD (k := 0) (N := ["steps", "writing", "here", "column"]) (ps := ["steps", "writing"]) (sm := B__law_led) F sc__law_led (fun cdv A outer s H E hr => ?_), hm, F.kp, fun j hj => ?_⟩
  · have tk : Takes (cxOf (L2.CX P w) P w K mg base ["steps", "writing", "here", "column"] "_law_led" (defScope s__law_led) f cdv A outer s H E) (fun cls d _ H => E cls d H) := takes_of rfl rfl rfl rfl
    exact (dss_cons (ds_set (i := 2) nd de_int)
    (dss_cons (ds_for (L2.passes_of rfl) rfl (di_any (de_var 1)) (dg_name (i := 3) nd rfl) (dss_one (ds_set (i := 2) nd (de_ix (de_ix (de_var 0) (dq_var 2)) (dq_var 3)))))
    (dss_one (ds_ret (de_var 2)))))
  · exact by
      obtain rfl : j = 0 := by simpa using hj
      exact ⟨[], .nil, F.bindsN fun kV doc pm an cdv ct us hl => match us, hl with | [_, _], _ => rfl⟩
def B__law_is_taken : SM := sRet (eBin eqD (eBin ixD (eVar 0) (eCall F__law_led (aCons (eVar 1) (aCons (eCall F__law_columns (aCons (eVar 2) (aCons (eVar 3) (aNil))) []) (aNil))) [])) (eC (.int 1)))
def F__law_is_taken : Fn := mkF 4 B__law_is_taken
theorem sc__law_is_taken : FnScope ["ends", "steps", "numbers", "base"] ["ends", "steps", "numbers", "base"] (defScope s__law_is_taken) := ⟨rfl, rfl, rfl, by decide +kernel, rfl, by decide +kernel, by decide +kernel⟩
theorem own__law_is_taken (C : Cst P w K mg) (D : DefAt K mg "_law_is_taken" s__law_is_taken []) (o__law_led : Own P w K mg base 1 "_law_led" ["steps", "writing"] F__law_led []) (o__law_columns : Own P w K mg base 2 "_law_columns" ["numbers", "base"] F__law_columns []) : Own P w K mg base 3 "_law_is_taken" ["ends", "steps", "numbers", "base"] F__law_is_taken [] := by
  obtain ⟨f, fd, F, hm⟩ := D
  have nd : (["ends", "steps", "numbers", "base"] : List Str).Nodup := sc__law_is_taken.nd
  refine ⟨rfl, f, fd, ok_fnD (k := 2) (N := ["ends", "steps", "numbers", "base"]) (ps := ["ends", "steps", "numbers", "base"]) (sm := B__law_is_taken) F sc__law_is_taken (fun cdv A outer s H E hr => ?_), hm, F.kp, fun j hj => ?_⟩
  · have tk : Takes (cxOf (L2.CX P w) P w K mg base ["ends", "steps", "numbers", "base"] "_law_is_taken" (defScope s__law_is_taken) f cdv A outer s H E) (fun cls d _ H => E cls d H) := takes_of rfl rfl rfl rfl
    exact (dss_one (ds_ret (de_cmp (op_eqD hr.units) l_eq (de_ix (de_var 0) (de_own (j := 0) (dds := []) o__law_led rfl (by decide) (hr.mono (by decide)) tk (da_cons (de_var 1) (da_cons (de_own (j := 0) (dds := []) o__law_columns rfl (by decide) (hr.mono (by decide)) tk (da_cons (de_var 2) (da_cons (de_var 3) da_nil)) (ln_def (ln_cons (ln_cons ln_nil)) rfl)) da_nil)) (ln_def (ln_cons (ln_cons ln_nil)) rfl)).q) de_int.q)))
  · exact by
      obtain rfl : j = 0 := by simpa using hj
      exact ⟨[], .nil, F.bindsN fun kV doc pm an cdv ct us hl => match us, hl with | [_, _, _, _], _ => rfl⟩
def B__law_drawn : SM := sSeq (sAsg (eTup (aCons (eBin addD (eC (.int 1)) (eCall F__law_draw (aCons (eVar 0) (aCons (eVar 3) (aNil))) [])) (aCons (eBin ixD (eF (fLst (aCons (eC (.int 1)) (aCons (eVar 1) (aCons (eBin mulD3 (eVar 1) (eLook 1)) (aCons (eBin mulD3 (eBin mulD3 (eVar 1) (eLook 1)) (eLook 1)) (aNil))))))) (eLook 2)) (aNil)))) (gT 2 (gConsD (gN 4) (gConsD (gN 5) (gNilD)))))
    (sSeq (sCompF [] (iRange1 (aCons (eVar 4) (aNil))) [7] (gN 7) (tmYes) (fComp [] (iRange1 (aCons (eVar 5) (aNil))) [8] (gN 8) (tmYes) (eCall F__law_draw (aCons (eVar 0) (aCons (eVar 4) (aNil))) [])) 6)
    (sSeq (sPut2 6 (eC (.int 0)) (eC (.int 0)) (fun _ => some 0))
    (sRet (eTup (aCons (eF (fComp [] (iRange1 (aCons (eVar 4) (aNil))) [7] (gN 7) (tmYes) (eCall F__law_draw (aCons (eVar 0) (aCons (eC (.int 2)) (aNil))) []))) (aCons (eVar2 6) (aNil)))))))
def F__law_drawn : Fn := mkF 9 B__law_drawn
theorem sc__law_drawn : FnScope ["pen", "base", "many", "most", "states", "columns", "steps", "state", "column"] ["pen", "base", "many", "most"] (defScope s__law_drawn) := ⟨rfl, rfl, rfl, by decide +kernel, rfl, by decide +kernel, by decide +kernel⟩
theorem own__law_drawn (C : Cst P w K mg) (D : DefAt K mg "_law_drawn" s__law_drawn []) (o__law_draw : Own P w K mg base 1 "_law_draw" ["pen", "many"] F__law_draw []) : Own P w K mg base 2 "_law_drawn" ["pen", "base", "many", "most"] F__law_drawn [] := by
  obtain ⟨f, fd, F, hm⟩ := D
  have nd : (["pen", "base", "many", "most", "states", "columns", "steps", "state", "column"] : List Str).Nodup := sc__law_drawn.nd
  refine ⟨rfl, f, fd, ok_fnD (k := 1) (N := ["pen", "base", "many", "most", "states", "columns", "steps", "state", "column"]) (ps := ["pen", "base", "many", "most"]) (sm := B__law_drawn) F sc__law_drawn (fun cdv A outer s H E hr => ?_), hm, F.kp, fun j hj => ?_⟩
  · have tk : Takes (cxOf (L2.CX P w) P w K mg base ["pen", "base", "many", "most", "states", "columns", "steps", "state", "column"] "_law_drawn" (defScope s__law_drawn) f cdv A outer s H E) (fun cls d _ H => E cls d H) := takes_of rfl rfl rfl rfl
    exact (dss_cons (ds_asg (de_tup (da_cons (de_bin op_add4 l_add de_int (de_own (j := 0) (dds := []) o__law_draw rfl (by decide) (hr.mono (by decide)) tk (da_cons (de_var 0) (da_cons (de_var 3) da_nil)) (ln_def (ln_cons (ln_cons ln_nil)) rfl)).q) (da_cons (de_ix ((df_lst (da_cons de_int (da_cons (de_var 1) (da_cons (de_bin op_mul4 l_mul3 (de_var 1) (dq_var 1)) (da_cons (de_bin op_mul4 l_mul3 (de_bin op_mul4 l_mul3 (de_var 1) (dq_var 1)) (dq_var 1)) da_nil)))))).e (dq_var 2)) da_nil))) (dg_tup rfl (dgs_cons (dg_name (i := 4) nd rfl) (dgs_cons (dg_name (i := 5) nd rfl) dgs_nil))))
    (dss_cons (ds_setCompF (i := 6) (js := []) (own := [("state", 7)]) rfl nd rfl (by rfl) (di_range1 (by rfl) C.m_range (da_cons (de_var 4) da_nil)) (blkOk_by (own := [("state", 7)]) (by kernel_rfl)) (fun _ _ _ _ _ => (dg_name (i := 7) nd rfl)) (fun _ _ _ _ _ => dts_nil) (fun _ _ _ _ _ => (df_comp (js := []) (own := [("column", 8)]) rfl nd (di_range1 (by rfl) C.m_range (da_cons (de_var 5) da_nil)) (blkOk_by (own := [("column", 8)]) (by kernel_rfl)) (fun _ _ _ _ _ => (dg_name (i := 8) nd rfl)) (fun _ _ _ _ _ => dts_nil) (fun _ _ _ _ _ => (de_own (j := 0) (dds := []) o__law_draw rfl (by decide) (hr.mono (by decide)) L2.takes0 (da_cons (de_var 0) (da_cons (de_var 4) da_nil)) (ln_def (ln_cons (ln_cons ln_nil)) rfl))))))
    (dss_cons (ds_put2 (j := 6) de_int de_int ixe_c)
    (dss_one (ds_ret (de_tup (da_cons ((df_comp (js := []) (own := [("state", 7)]) rfl nd (di_range1 (by rfl) C.m_range (da_cons (de_var 4) da_nil)) (blkOk_by (own := [("state", 7)]) (by kernel_rfl)) (fun _ _ _ _ _ => (dg_name (i := 7) nd rfl)) (fun _ _ _ _ _ => dts_nil) (fun _ _ _ _ _ => (de_own (j := 0) (dds := []) o__law_draw rfl (by decide) (hr.mono (by decide)) L2.takes0 (da_cons (de_var 0) (da_cons de_int da_nil)) (ln_def (ln_cons (ln_cons ln_nil)) rfl))))).e (da_cons (de_var2 6) da_nil))))))))
  · exact by
      obtain rfl : j = 0 := by simpa using hj
      exact ⟨[], .nil, F.bindsN fun kV doc pm an cdv ct us hl => match us, hl with | [_, _, _, _], _ => rfl⟩
def B__law_frame : SM := sSeq (sAsg (eBin addD (eC (.int 2)) (eCall F__law_draw (aCons (eVar 0) (aCons (eC (.int 3)) (aNil))) [])) (gN 1))
    (sSeq (sAsg (eCall F__law_pick (aCons (eVar 0) (aCons (eIf (tmB (eBin ltD (eVar 1) (eC (.int 4)))) (eF (fLst (aCons (eF (fLst (aCons (eC (.str "x")) (aNil)))) (aCons (eF (fLst (aCons (eC (.str "x")) (aNil)))) (aCons (eF (fLst (aCons (eC (.str "a")) (aCons (eC (.str "b")) (aNil))))) (aCons (eF (fLst (aNil))) (aNil))))))) (eF (fLst (aCons (eF (fLst (aCons (eC (.str "x")) (aNil)))) (aCons (eF (fLst (aCons (eC (.str "n")) (aNil)))) (aCons (eF (fLst (aNil))) (aNil))))))) (aNil))) []) (gN 2))
    (sRet (eTup (aCons (eVar 1) (aCons (eF (fList (eLook 2))) (aNil))))))
def F__law_frame : Fn := mkF 3 B__law_frame
theorem sc__law_frame : FnScope ["pen", "base", "letters"] ["pen"] (defScope s__law_frame) := ⟨rfl, rfl, rfl, by decide +kernel, rfl, by decide +kernel, by decide +kernel⟩
theorem own__law_frame (C : Cst P w K mg) (D : DefAt K mg "_law_frame" s__law_frame []) (o__law_draw : Own P w K mg base 1 "_law_draw" ["pen", "many"] F__law_draw []) (o__law_pick : Own P w K mg base 2 "_law_pick" ["pen", "some"] F__law_pick []) : Own P w K mg base 3 "_law_frame" ["pen"] F__law_frame [] := by
  obtain ⟨f, fd, F, hm⟩ := D
  have nd : (["pen", "base", "letters"] : List Str).Nodup := sc__law_frame.nd
  refine ⟨rfl, f, fd, ok_fnD (k := 2) (N := ["pen", "base", "letters"]) (ps := ["pen"]) (sm := B__law_frame) F sc__law_frame (fun cdv A outer s H E hr => ?_), hm, F.kp, fun j hj => ?_⟩
  · have tk : Takes (cxOf (L2.CX P w) P w K mg base ["pen", "base", "letters"] "_law_frame" (defScope s__law_frame) f cdv A outer s H E) (fun cls d _ H => E cls d H) := takes_of rfl rfl rfl rfl
    exact (dss_cons (ds_set (i := 1) nd (de_bin op_add4 l_add de_int (de_own (j := 0) (dds := []) o__law_draw rfl (by decide) (hr.mono (by decide)) tk (da_cons (de_var 0) (da_cons de_int da_nil)) (ln_def (ln_cons (ln_cons ln_nil)) rfl)).q))
    (dss_cons (ds_set (i := 2) nd (de_own (j := 0) (dds := []) o__law_pick rfl (by decide) (hr.mono (by decide)) tk (da_cons (de_var 0) (da_cons (de_if (dt_cmp op_lt l_lt (de_var 1) de_int.q) ((df_lst (da_cons ((df_lst (da_cons de_str da_nil))).e (da_cons ((df_lst (da_cons de_str da_nil))).e (da_cons ((df_lst (da_cons de_str (da_cons de_str da_nil)))).e (da_cons ((df_lst da_nil)).e da_nil)))))).e ((df_lst (da_cons ((df_lst (da_cons de_str da_nil))).e (da_cons ((df_lst (da_cons de_str da_nil))).e (da_cons ((df_lst da_nil)).e da_nil))))).e) da_nil)) (ln_def (ln_cons (ln_cons ln_nil)) rfl)))
    (dss_one (ds_ret (de_tup (da_cons (de_var 1) (da_cons ((df_list (by rfl) C.m_list Pd.boot_list (dq_var 2))).e da_nil)))))))
  · exact by
      obtain rfl : j = 0 := by simpa using hj
      exact ⟨[], .nil, F.bindsN fun kV doc pm an cdv ct us hl => match us, hl with | [_], _ => rfl⟩
def cl__law_complaint : List Cl := [⟨[("BadRow", false), ("BadItem", false), ("BadBase", false), ("BadMachine", true), ("BadNumbers", false), ("BadWriting", false)], "machine", [("why", false)]⟩, ⟨[("BadRow", false), ("BadItem", true), ("BadBase", false), ("BadMachine", false), ("BadNumbers", false), ("BadWriting", false)], "item", [("value", true)]⟩, ⟨[("BadRow", false), ("BadItem", false), ("BadBase", false), ("BadMachine", false), ("BadNumbers", true), ("BadWriting", false)], "numbers", [("value", true)]⟩, ⟨[("BadRow", false), ("BadItem", false), ("BadBase", false), ("BadMachine", false), ("BadNumbers", false), ("BadWriting", true)], "writing", [("value", true)]⟩]
theorem sc__law_complaint : FnScope ["call", "e"] ["call"] (defScope s__law_complaint) := ⟨rfl, rfl, rfl, by decide +kernel, rfl, by decide +kernel, by decide +kernel⟩
open LamX in
theorem lam__law_complaint {X : Cx} {WW : WX} {k : Nat} {c g : Addr} {oc kV doc pm cdv ct : Value} {od an : Option Addr} {osl : Array (Option Value)} {params : Arguments} {body : Expr} {scope : Scope} {p lpos pos : Pos} {fb : EM}
    (C : Cst X.prog X.w X.K X.mg) (hm : X.mg "_law_complaint" = some (.ref g)) (hk : PySem.W.keepIn X.K (.ref g) = true) (lk : X.K.lookup g = some ⟨oc, od, .func (PySem.W.fnOf "_law_complaint" "_law_complaint" (defArgs s__law_complaint) (defBody s__law_complaint) (defScope s__law_complaint) .none kV doc pm an cdv ct), osl⟩) (hcg : PySem.W.codeIn X.K cdv "_law_complaint" = true)
    (hgd : X.A.guards = some []) (TB : TabB X.base X.mg c tabP) (hcode : X.env.code = .ref c) (hq : X.env.qual ++ "<lambda>" = "law.<locals>.<lambda>") (hr : Room (k + 2) X.A) (hg : Gl X "_law_complaint") (L : LamS X.env.scope scope) (hdef : defaultsOf params X.env = ([], []))
    (hbind : ∀ (q : Str) (cl : List (Str × Addr)) (pm cv ctv : Value), bindArgs (PySem.W.kla_fn "<lambda>" q params body scope cl pm cv ctv) ⟨[], []⟩ = pure [])
    (hbody : ∀ (A : Around) (outer : List Env) (s : Shared) (H : Hp) (E : XK) (f c' : Addr), Room k (A.deeper (lamEnv X scope s.heap.objs.size f c')) → Takes (lamCx X A outer s H E scope f c') (fun cls d _ H => E cls d H) → DE (lamCx X A outer s H E scope f c') (fun cls d _ H => E cls d H) body fb) :
    DE X WW (.Call (.Name "_law_complaint" p) [.Lambda params body scope lpos] [] pos) (eLam cl__law_complaint "ok" fb) := by
  obtain ⟨C_BadMachine, _, _, _, T_BadMachine, _⟩ := C.x_BadMachine
  obtain ⟨C_BadItem, _, _, _, T_BadItem, _⟩ := C.x_BadItem
  obtain ⟨C_BadNumbers, _, _, _, T_BadNumbers, _⟩ := C.x_BadNumbers
  obtain ⟨C_BadWriting, _, _, _, T_BadWriting, _⟩ := C.x_BadWriting
  have cv : ClsOk X.K X.mg cl__law_complaint [⟨true, C_BadMachine, "machine", [("why", false)]⟩, ⟨true, C_BadItem, "item", [("value", true)]⟩, ⟨true, C_BadNumbers, "numbers", [("value", true)]⟩, ⟨true, C_BadWriting, "writing", [("value", true)]⟩] := by
    refine .cons ⟨rfl, rfl, .inl rfl, fun x b D h hd => ?_, fun _ x D h hd => ?_, by decide⟩ ?_
    · have h := mem_of_lookup2 h
      simp only [List.mem_cons, List.not_mem_nil, or_false, Prod.mk.injEq] at h
      rcases h with ⟨rfl, rfl⟩ | ⟨rfl, rfl⟩ | ⟨rfl, rfl⟩ | ⟨rfl, rfl⟩ | ⟨rfl, rfl⟩ | ⟨rfl, rfl⟩
      · exact C.e_BadRow_BadMachine _ _ hd T_BadMachine.gC
      · exact C.e_BadItem_BadMachine _ _ hd T_BadMachine.gC
      · exact C.e_BadBase_BadMachine _ _ hd T_BadMachine.gC
      · exact C.e_BadMachine_BadMachine _ _ hd T_BadMachine.gC
      · exact C.e_BadNumbers_BadMachine _ _ hd T_BadMachine.gC
      · exact C.e_BadWriting_BadMachine _ _ hd T_BadMachine.gC
    · have h := mem_of_lookup2 h
      simp only [List.mem_cons, List.not_mem_nil, or_false, Prod.mk.injEq, reduceCtorEq, and_false, or_false, false_or, and_true] at h
      subst h
      rw [T_BadMachine.gC] at hd
      cases hd
      rfl
    refine .cons ⟨rfl, rfl, .inl rfl, fun x b D h hd => ?_, fun _ x D h hd => ?_, by decide⟩ ?_
    · have h := mem_of_lookup2 h
      simp only [List.mem_cons, List.not_mem_nil, or_false, Prod.mk.injEq] at h
      rcases h with ⟨rfl, rfl⟩ | ⟨rfl, rfl⟩ | ⟨rfl, rfl⟩ | ⟨rfl, rfl⟩ | ⟨rfl, rfl⟩ | ⟨rfl, rfl⟩
      · exact C.e_BadRow_BadItem _ _ hd T_BadItem.gC
      · exact C.e_BadItem_BadItem _ _ hd T_BadItem.gC
      · exact C.e_BadBase_BadItem _ _ hd T_BadItem.gC
      · exact C.e_BadMachine_BadItem _ _ hd T_BadItem.gC
      · exact C.e_BadNumbers_BadItem _ _ hd T_BadItem.gC
      · exact C.e_BadWriting_BadItem _ _ hd T_BadItem.gC
    · have h := mem_of_lookup2 h
      simp only [List.mem_cons, List.not_mem_nil, or_false, Prod.mk.injEq, reduceCtorEq, and_false, or_false, false_or, and_true] at h
      subst h
      rw [T_BadItem.gC] at hd
      cases hd
      rfl
    refine .cons ⟨rfl, rfl, .inl rfl, fun x b D h hd => ?_, fun _ x D h hd => ?_, by decide⟩ ?_
    · have h := mem_of_lookup2 h
      simp only [List.mem_cons, List.not_mem_nil, or_false, Prod.mk.injEq] at h
      rcases h with ⟨rfl, rfl⟩ | ⟨rfl, rfl⟩ | ⟨rfl, rfl⟩ | ⟨rfl, rfl⟩ | ⟨rfl, rfl⟩ | ⟨rfl, rfl⟩
      · exact C.e_BadRow_BadNumbers _ _ hd T_BadNumbers.gC
      · exact C.e_BadItem_BadNumbers _ _ hd T_BadNumbers.gC
      · exact C.e_BadBase_BadNumbers _ _ hd T_BadNumbers.gC
      · exact C.e_BadMachine_BadNumbers _ _ hd T_BadNumbers.gC
      · exact C.e_BadNumbers_BadNumbers _ _ hd T_BadNumbers.gC
      · exact C.e_BadWriting_BadNumbers _ _ hd T_BadNumbers.gC
    · have h := mem_of_lookup2 h
      simp only [List.mem_cons, List.not_mem_nil, or_false, Prod.mk.injEq, reduceCtorEq, and_false, or_false, false_or, and_true] at h
      subst h
      rw [T_BadNumbers.gC] at hd
      cases hd
      rfl
    refine .cons ⟨rfl, rfl, .inl rfl, fun x b D h hd => ?_, fun _ x D h hd => ?_, by decide⟩ ?_
    · have h := mem_of_lookup2 h
      simp only [List.mem_cons, List.not_mem_nil, or_false, Prod.mk.injEq] at h
      rcases h with ⟨rfl, rfl⟩ | ⟨rfl, rfl⟩ | ⟨rfl, rfl⟩ | ⟨rfl, rfl⟩ | ⟨rfl, rfl⟩ | ⟨rfl, rfl⟩
      · exact C.e_BadRow_BadWriting _ _ hd T_BadWriting.gC
      · exact C.e_BadItem_BadWriting _ _ hd T_BadWriting.gC
      · exact C.e_BadBase_BadWriting _ _ hd T_BadWriting.gC
      · exact C.e_BadMachine_BadWriting _ _ hd T_BadWriting.gC
      · exact C.e_BadNumbers_BadWriting _ _ hd T_BadWriting.gC
      · exact C.e_BadWriting_BadWriting _ _ hd T_BadWriting.gC
    · have h := mem_of_lookup2 h
      simp only [List.mem_cons, List.not_mem_nil, or_false, Prod.mk.injEq, reduceCtorEq, and_false, or_false, false_or, and_true] at h
      subst h
      rw [T_BadWriting.gC] at hd
      cases hd
      rfl
    exact .nil
  refine de_lam (k := k) (okS := "ok") cv hg hm hk lk hcg (Binds.all fun us hl => match us, hl with | [_], _ => rfl) sc__law_complaint rfl (Or.inl rfl) ?_ TB hcode (by rw [hq]; exact List.mem_cons_self) (fun p hp _ => by rw [hq]; obtain rfl := List.mem_singleton.mp hp; rfl) hr L hdef hbind (fun A outer s H E f c2 h => hbody A outer s H E f c2 h (takes_of rfl rfl rfl rfl))
  refine gives (okS := "ok") (by decide) (fun _ => rfl) fun s H => ?_
  refine .cons (b := true) ⟨rfl, by decide, .inl T_BadMachine.gC⟩ (fun a oe cls d pn hz hf => pss_len (su_ret (its_f (i := 1) (n := "e") T_BadMachine hz hf (by decide) rfl (Or.inl rfl) rfl rfl rfl its_nil rfl) rfl)) ?_
  refine .cons (b := true) ⟨rfl, by decide, .inl T_BadItem.gC⟩ (fun a oe cls d pn hz hf => pss_len (su_ret (its_r (i := 1) (n := "e") hgd (hu150 (hr.deeper _)) rfl C.m_repr Pd.boot_repr T_BadItem hz hf (by decide) rfl (Or.inl rfl) rfl rfl rfl its_nil rfl rfl) rfl)) ?_
  refine .cons (b := true) ⟨rfl, by decide, .inl T_BadNumbers.gC⟩ (fun a oe cls d pn hz hf => pss_len (su_ret (its_r (i := 1) (n := "e") hgd (hu150 (hr.deeper _)) rfl C.m_repr Pd.boot_repr T_BadNumbers hz hf (by decide) rfl (Or.inl rfl) rfl rfl rfl its_nil rfl rfl) rfl)) ?_
  refine .cons (b := true) ⟨rfl, by decide, .inl T_BadWriting.gC⟩ (fun a oe cls d pn hz hf => pss_len (su_ret (its_r (i := 1) (n := "e") hgd (hu150 (hr.deeper _)) rfl C.m_repr Pd.boot_repr T_BadWriting hz hf (by decide) rfl (Or.inl rfl) rfl rfl rfl its_nil rfl rfl) rfl)) ?_
  exact .nil
def B_law : SM := sSeq (sFor (iRange1 (aCons (eC (.int 2)) (aNil))) (gN 2) (sSeq (sAsg (eCall F__law_frame (aCons (eVar 1) (aNil)) []) (gT 2 (gConsD (gN 9) (gConsD (gN 10) (gNilD)))))
    (sSeq (sAsg (eCall F__law_drawn (aCons (eVar 1) (aCons (eVar 9) (aCons (eUn lenD (eLook 10)) (aCons (eC (.int 5)) (aNil))))) []) (gT 2 (gConsD (gN 11) (gConsD (gN 12) (gNilD)))))
    (sSeq (sAsg (eNew "Machine" I_Machine (aCons (eVar 9) (aCons (eCall F__law_listed (aCons (eVar 1) (aCons (eVar 10) (aNil))) []) (aCons (eCall F__law_listed (aCons (eVar 1) (aCons (eVar 11) (aNil))) []) (aCons (eCall F__law_listed (aCons (eVar 1) (aCons (eF (fComp [] (iAny (eVar 12)) [20] (gN 20) (tmYes) (eCall F__law_listed (aCons (eVar 1) (aCons (eVar 20) (aNil))) []))) (aNil))) []) (aNil))))) []) (gN 13))
    (sSeq (sIf (tmB (eBin neD (eTup (aCons (eUn (fldD cs "base") (eVar 13)) (aCons (eUn (fldD cs "letters") (eVar 13)) (aCons (eUn (fldD cs "ends") (eVar 13)) (aCons (eUn (fldD cs "steps") (eVar 13)) (aCons (eUn (fldD cs "many") (eVar 13)) (aNil))))))) (eTup (aCons (eVar 9) (aCons (eUn tupleD (eLook 10)) (aCons (eUn tupleD (eLook 11)) (aCons (eUn tupleD (eF (fComp [] (iAny (eVar 12)) [20] (gN 20) (tmYes) (eUn tupleD (eLook 20))))) (aCons (eUn lenD (eLook 11)) (aNil))))))))) (sRet (eC (.bl false))) (sNext))
    (sSeq (sIf (tmOr (tmB (eCmpO cs Teq true (eVar 13) (eNew "Machine" I_Machine (aCons (eVar 9) (aCons (eVar 10) (aCons (eVar 11) (aCons (eVar 12) (aNil))))) []))) (tmB (eCmpO cs Teq false (eVar 13) (eTup (aCons (eVar 11) (aCons (eVar 12) (aNil))))))) (sRet (eC (.bl false))) (sNext))
    (sSeq (sFor (iRange1 (aCons (eC (.int 5)) (aNil))) (gN 14) (sSeq (sOwn (fComp [] (iAny (eVar 10)) [19] (gN 19) (tmYes) (eCall F__law_draw (aCons (eVar 1) (aCons (eCall F__law_pick (aCons (eVar 1) (aCons (eF (fLst (aCons (eC (.int 3)) (aCons (eC (.int 50)) (aCons (eC (.int 100000000000000000000)) (aNil)))))) (aNil))) []) (aNil))) [])) 16)
    (sSeq (sAsg (eCall F__law_is_taken (aCons (eVar 11) (aCons (eVar 12) (aCons (eVar 16) (aCons (eVar 9) (aNil))))) []) (gN 17))
    (sSeq (sIf (tmNot (tmE (eCall F__law_is_truth (aCons (eCall F_accepts (aCons (eVar 13) (aCons (eCall F__law_listed (aCons (eVar 1) (aCons (eVar 16) (aNil))) []) (aNil))) []) (aCons (eVar 17) (aNil))) []))) (sRet (eC (.bl false))) (sNext))
    (sSeq (sAsg (eBin addD (eBin mulD3 (eF (fLst (aCons (eC (.int 0)) (aNil)))) (eCall F__law_draw (aCons (eVar 1) (aCons (eC (.int 4)) (aNil))) [])) (eCall F__law_columns (aCons (eVar 16) (aCons (eVar 9) (aNil))) [])) (gN 18))
    (sIf (tmNot (tmE (eCall F__law_is_truth (aCons (eCall F_accepts_writing (aCons (eVar 13) (aCons (eCall F__law_listed (aCons (eVar 1) (aCons (eVar 18) (aNil))) []) (aNil))) []) (aCons (eVar 17) (aNil))) []))) (sRet (eC (.bl false))) (sNext)))))))
    (sSeq (sAsg (eCall F__law_pick (aCons (eVar 1) (aCons (eF (fLst (aCons (eC .non) (aCons (eC (.int 3)) (aCons (eIf (tmB (eBin neD (eVar 10) (eF (fLst (aNil))))) (eBin mulD3 (eF (fLst (aCons (eUn negD (eC (.int 1))) (aNil)))) (eUn lenD (eLook 10))) (eF (fLst (aCons (eC (.int 0)) (aNil))))) (aCons (eBin mulD3 (eF (fLst (aCons (eC (.int 0)) (aNil)))) (eBin addD (eUn lenD (eLook 10)) (eC (.int 1)))) (aCons (eIf (tmB (eBin neD (eVar 10) (eF (fLst (aNil))))) (eBin mulD3 (eF (fLst (aCons (eC (.bl true)) (aNil)))) (eUn lenD (eLook 10))) (eC (.str "a"))) (aCons (eBin mulD3 (eF (fLst (aCons (eC (.str "1")) (aNil)))) (eBin addD (eUn lenD (eLook 10)) (eC (.int 1)))) (aNil))))))))) (aNil))) []) (gN 15))
    (sSeq (sIf (tmB (eBin neD (eLam cl__law_complaint "ok" (eCall F_accepts (aCons (eVar 13) (aCons (eVar 15) (aNil))) [])) (eTup (aCons (eC (.str "numbers")) (aCons (eUn reprD (eLook 15)) (aNil)))))) (sRet (eC (.bl false))) (sNext))
    (sSeq (sAsg (eCall F__law_pick (aCons (eVar 1) (aCons (eF (fLst (aCons (eC .non) (aCons (eC (.int 3)) (aCons (eF (fLst (aCons (eUn negD (eC (.int 1))) (aNil)))) (aCons (eF (fLst (aCons (eUn lenD (eBin ixD (eVar 12) (eC (.int 0)))) (aNil)))) (aCons (eF (fLst (aCons (eC (.bl true)) (aNil)))) (aCons (eF (fLst (aCons (eC (.str "0")) (aNil)))) (aNil))))))))) (aNil))) []) (gN 15))
    (sIf (tmB (eBin neD (eLam cl__law_complaint "ok" (eCall F_accepts_writing (aCons (eVar 13) (aCons (eVar 15) (aNil))) [])) (eTup (aCons (eC (.str "writing")) (aCons (eUn reprD (eLook 15)) (aNil)))))) (sRet (eC (.bl false))) (sNext))))))))))))
    (sSeq (sAsg (eTup (aCons (eC (.int 2)) (aCons (eF (fLst (aCons (eC (.str "x")) (aNil)))) (aCons (eF (fLst (aCons (eC (.int 0)) (aCons (eC (.int 1)) (aNil))))) (aCons (eF (fLst (aCons (eF (fLst (aCons (eC (.int 0)) (aCons (eC (.int 1)) (aNil))))) (aCons (eF (fLst (aCons (eC (.int 1)) (aCons (eC (.int 0)) (aNil))))) (aNil))))) (aNil)))))) (gN 3))
    (sSeq (sAsg (eF (fLst (aCons (eTup (aCons (eTup (aCons (eC (.int 1)) (aCons (eC .non) (aCons (eC .non) (aCons (eC .non) (aNil)))))) (aCons (eC (.str "base")) (aNil)))) (aCons (eTup (aCons (eTup (aCons (eC (.int 5)) (aCons (eC .non) (aCons (eC .non) (aCons (eC .non) (aNil)))))) (aCons (eC (.str "base")) (aNil)))) (aCons (eTup (aCons (eTup (aCons (eC (.bl true)) (aCons (eC .non) (aCons (eC .non) (aCons (eC .non) (aNil)))))) (aCons (eC (.str "base")) (aNil)))) (aCons (eTup (aCons (eTup (aCons (eC (.int 2)) (aCons (eC .non) (aCons (eC .non) (aCons (eC .non) (aNil)))))) (aCons (eC (.str "letters")) (aNil)))) (aCons (eTup (aCons (eTup (aCons (eC (.int 2)) (aCons (eF (fLst (aCons (eC (.str "x")) (aCons (eC (.str "x")) (aNil))))) (aCons (eC .non) (aCons (eC .non) (aNil)))))) (aCons (eC (.str "letters")) (aNil)))) (aNil)))))))) (gN 4))
    (sSeq (sAsg (eBin addD (eVar 4) (eF (fLst (aCons (eTup (aCons (eTup (aCons (eC (.int 2)) (aCons (eF (fLst (aCons (eC (.str "y")) (aCons (eC (.str "x")) (aNil))))) (aCons (eC .non) (aCons (eC .non) (aNil)))))) (aCons (eC (.str "letters")) (aNil)))) (aCons (eTup (aCons (eTup (aCons (eC (.int 4)) (aCons (eF (fLst (aCons (eC (.str "a")) (aCons (eC (.str "b")) (aCons (eC (.str "c")) (aNil)))))) (aCons (eC .non) (aCons (eC .non) (aNil)))))) (aCons (eC (.str "letters")) (aNil)))) (aCons (eTup (aCons (eTup (aCons (eC (.int 2)) (aCons (eF (fLst (aCons (eC (.str "X")) (aNil)))) (aCons (eC .non) (aCons (eC .non) (aNil)))))) (aCons (eC (.str "letters")) (aNil)))) (aCons (eTup (aCons (eTup (aCons (eC (.int 2)) (aCons (eF (fLst (aCons (eC (.str "x")) (aNil)))) (aCons (eF (fLst (aNil))) (aCons (eC .non) (aNil)))))) (aCons (eC (.str "ends")) (aNil)))) (aCons (eTup (aCons (eTup (aCons (eC (.int 2)) (aCons (eF (fLst (aCons (eC (.str "x")) (aNil)))) (aCons (eF (fLst (aCons (eC (.int 0)) (aCons (eC (.int 2)) (aNil))))) (aCons (eC .non) (aNil)))))) (aCons (eC (.str "ends")) (aNil)))) (aNil))))))))) (gN 4))
    (sSeq (sAsg (eBin addD (eVar 4) (eF (fLst (aCons (eTup (aCons (eTup (aCons (eC (.int 2)) (aCons (eF (fLst (aCons (eC (.str "x")) (aNil)))) (aCons (eF (fLst (aCons (eC (.int 0)) (aCons (eC (.bl true)) (aNil))))) (aCons (eC .non) (aNil)))))) (aCons (eC (.str "ends")) (aNil)))) (aCons (eTup (aCons (eTup (aCons (eC (.int 2)) (aCons (eF (fLst (aCons (eC (.str "x")) (aNil)))) (aCons (eF (fLst (aCons (eC (.int 0)) (aCons (eC (.int 1)) (aNil))))) (aCons (eF (fLst (aCons (eF (fLst (aCons (eC (.int 0)) (aCons (eC (.int 1)) (aNil))))) (aNil)))) (aNil)))))) (aCons (eC (.str "steps")) (aNil)))) (aCons (eTup (aCons (eTup (aCons (eC (.int 2)) (aCons (eF (fLst (aCons (eC (.str "x")) (aNil)))) (aCons (eF (fLst (aCons (eC (.int 0)) (aCons (eC (.int 1)) (aNil))))) (aCons (eF (fLst (aCons (eF (fLst (aCons (eC (.int 0)) (aCons (eC (.int 1)) (aNil))))) (aCons (eF (fLst (aCons (eC (.int 1)) (aNil)))) (aNil))))) (aNil)))))) (aCons (eC (.str "steps")) (aNil)))) (aCons (eTup (aCons (eTup (aCons (eC (.int 2)) (aCons (eF (fLst (aCons (eC (.str "x")) (aNil)))) (aCons (eF (fLst (aCons (eC (.int 0)) (aCons (eC (.int 1)) (aNil))))) (aCons (eF (fLst (aCons (eF (fLst (aCons (eC (.int 0)) (aCons (eC (.int 1)) (aNil))))) (aCons (eF (fLst (aCons (eC (.int 1)) (aCons (eC (.int 2)) (aNil))))) (aNil))))) (aNil)))))) (aCons (eC (.str "steps")) (aNil)))) (aNil)))))))) (gN 4))
    (sSeq (sAsg (eBin addD (eVar 4) (eF (fLst (aCons (eTup (aCons (eTup (aCons (eC (.int 2)) (aCons (eF (fLst (aCons (eC (.str "x")) (aNil)))) (aCons (eF (fLst (aCons (eC (.int 0)) (aCons (eC (.int 1)) (aNil))))) (aCons (eF (fLst (aCons (eF (fLst (aCons (eC (.int 0)) (aCons (eC (.int 1)) (aNil))))) (aCons (eF (fLst (aCons (eC (.int 1)) (aCons (eC (.bl false)) (aNil))))) (aNil))))) (aNil)))))) (aCons (eC (.str "steps")) (aNil)))) (aCons (eTup (aCons (eTup (aCons (eC (.int 2)) (aCons (eF (fLst (aCons (eC (.str "x")) (aNil)))) (aCons (eF (fLst (aCons (eC (.int 0)) (aCons (eC (.int 1)) (aNil))))) (aCons (eF (fLst (aCons (eF (fLst (aCons (eC (.int 1)) (aCons (eC (.int 1)) (aNil))))) (aCons (eF (fLst (aCons (eC (.int 1)) (aCons (eC (.int 0)) (aNil))))) (aNil))))) (aNil)))))) (aCons (eC (.str "noughts")) (aNil)))) (aCons (eTup (aCons (eTup (aCons (eC (.int 2)) (aCons (eF (fLst (aCons (eC (.str "x")) (aNil)))) (aCons (eC .non) (aCons (eF (fLst (aCons (eF (fLst (aCons (eC (.int 1)) (aCons (eC (.int 1)) (aNil))))) (aCons (eF (fLst (aCons (eC (.int 1)) (aCons (eC (.int 0)) (aNil))))) (aNil))))) (aNil)))))) (aCons (eC (.str "ends")) (aNil)))) (aNil))))))) (gN 4))
    (sSeq (sFor (iAny (eSl (eCall F__law_shuffled (aCons (eVar 1) (aCons (eVar 4) (aNil))) []) (oNone) (oSome (eC (.int 7))))) (gT 2 (gConsD (gN 5) (gConsD (gN 6) (gNilD)))) (sIf (tmB (eBin neD (eLam cl__law_complaint "ok" (eNew "Machine" I_Machine (aCons (eBin ixD (eVar 5) (eC (.int 0))) (aCons (eBin ixD (eVar 5) (eC (.int 1))) (aCons (eBin ixD (eVar 5) (eC (.int 2))) (aCons (eBin ixD (eVar 5) (eC (.int 3))) (aNil))))) [])) (eTup (aCons (eC (.str "machine")) (aCons (eVar 6) (aNil)))))) (sRet (eC (.bl false))) (sNext)))
    (sSeq (sIf (tmB (eCmpO cs Teq false (eNew "Machine" I_Machine (aCons (eBin ixD (eVar 3) (eC (.int 0))) (aCons (eBin ixD (eVar 3) (eC (.int 1))) (aCons (eBin ixD (eVar 3) (eC (.int 2))) (aCons (eBin ixD (eVar 3) (eC (.int 3))) (aNil))))) []) (eNew "Machine" I_Machine (aCons (eC (.int 2)) (aCons (eF (fLst (aCons (eC (.str "y")) (aNil)))) (aCons (eBin ixD (eVar 3) (eC (.int 2))) (aCons (eBin ixD (eVar 3) (eC (.int 3))) (aNil))))) []))) (sRet (eC (.bl false))) (sNext))
    (sSeq (sAsg (eCall F__law_pick (aCons (eVar 1) (aCons (eF (fLst (aCons (eC .non) (aCons (eC (.int 3)) (aCons (eVar 3) (aNil)))))) (aNil))) []) (gN 7))
    (sSeq (sOwn (fLst (aCons (eLam cl__law_complaint "ok" (eCall F_accepts (aCons (eVar 7) (aCons (eC .non) (aNil))) [])) (aNil))) 8)
    (sSeq (sAppend 8 (eLam cl__law_complaint "ok" (eCall F_accepts_writing (aCons (eVar 7) (aCons (eC .non) (aNil))) [])))
    (sRet (eBin eqD (eVar 8) (eBin mulD3 (eF (fLst (aCons (eTup (aCons (eC (.str "item")) (aCons (eUn reprD (eLook 7)) (aNil)))) (aNil)))) (eC (.int 2)))))))))))))))
theorem sc_law : FnScope ["script", "pen", "lap", "right", "some", "parts", "why", "bad", "found", "base", "letters", "ends", "steps", "machine", "step", "odd", "numbers", "due", "writing", "letter", "row"] ["script"] (defScope s_law) := ⟨rfl, rfl, rfl, by decide +kernel, rfl, by decide +kernel, by decide +kernel⟩
theorem sc__law_pen : FnScope ["script", "fold", "cell"] ["script"] (defScope s__law_pen) := ⟨rfl, rfl, rfl, by decide +kernel, rfl, by decide +kernel, by decide +kernel⟩
theorem fn_pen (C : Cst P w K mg) {f : Addr} {fd : FuncData} (F : FunD K "_law_pen" "_law_pen" (defArgs s__law_pen) (defBody s__law_pen) (defScope s__law_pen) [] [] f fd) : FnOk P w K mg base (L2.CX P w) 1 f fd ["script"] (spPen K) := by
  obtain ⟨oc, od, dV, kV, doc, pm, an, cdv, ct, osl, rfl, lk, hcd, _, _⟩ := F.ex
  have nd : (["script", "fold", "cell"] : List Str).Nodup := sc__law_pen.nd
  refine fn_of (k := 0) lk hcd sc__law_pen (fun vs H Q E h => ?_) fun A outer s H vs Q E hr h => ⟨t_pen K (tCB (rListOf K) (tCons (tVar 0) tNil)), ?_, pure_pen vs H Q E h⟩
  · obtain ⟨a, ns, rfl, _⟩ := h
    rfl
  · exact pss_cons (ps_set (i := 1) nd rfl (Or.inl rfl) pe_int) (pss_cons (ps_for (L2.passes_of rfl) rfl (pi_list (pv 0)) (pg_name (i := 2) nd rfl (Or.inl rfl)) (pss_one (ps_set (i := 1) nd rfl (Or.inl rfl) (pe_op op_mod (pe_callTy call_int1 rfl C.m_int Pd.boot_int (pa_cons (pe_op op_add (pe_op op_mulW (pv 1) pe_int) (pv 2)) pa_nil)) pe_int))))
      (pss_one (ps_ret (pe_disp (pps_cons pe_str (pe_callTy call_list_of rfl C.m_list Pd.boot_list (pa_cons (pv 0) pa_nil)) (pps_cons pe_str pe_int (pps_cons pe_str pe_int (pps_cons pe_str pe_int (pps_cons pe_str (pv 1) pps_nil))))) rfl rfl (by simp) (by decide)))))
theorem law_run (C : Cst P w K mg) (o__law_frame : Own P w K mg base 3 "_law_frame" ["pen"] F__law_frame []) (o__law_drawn : Own P w K mg base 2 "_law_drawn" ["pen", "base", "many", "most"] F__law_drawn []) (o_mk_Machine : MkO P w K mg base 4 "Machine" 4 I_Machine []) (o__law_listed : Own P w K mg base 2 "_law_listed" ["pen", "row"] F__law_listed []) (o_eq : ∀ q ∈ Teq, EqM P w K mg base 1 q.1 q.2 ∧ ∃ fl, (q.1, fl) ∈ cs) (o__law_draw : Own P w K mg base 1 "_law_draw" ["pen", "many"] F__law_draw []) (o__law_pick : Own P w K mg base 2 "_law_pick" ["pen", "some"] F__law_pick []) (o__law_is_taken : Own P w K mg base 3 "_law_is_taken" ["ends", "steps", "numbers", "base"] F__law_is_taken []) (o__law_is_truth : Own P w K mg base 1 "_law_is_truth" ["value", "due"] F__law_is_truth []) (o_accepts : Own P w K mg base 6 "accepts" ["machine", "numbers"] F_accepts []) (o__law_columns : Own P w K mg base 2 "_law_columns" ["numbers", "base"] F__law_columns []) (o_accepts_writing : Own P w K mg base 3 "accepts_writing" ["machine", "writing"] F_accepts_writing []) (o__law_shuffled : Own P w K mg base 2 "_law_shuffled" ["pen", "some"] F__law_shuffled []) {fp : Addr} {fdp : FuncData} (FP : FunD K "_law_pen" "_law_pen" (defArgs s__law_pen) (defBody s__law_pen) (defScope s__law_pen) [] [] fp fdp) (mP : mg "_law_pen" = some (.ref fp)) {g__law_complaint : Addr} {oc__law_complaint kV__law_complaint dc__law_complaint pm__law_complaint cd__law_complaint ct__law_complaint : Value} {od__law_complaint an__law_complaint : Option Addr} {sl__law_complaint : Array (Option Value)} (hm__law_complaint : mg "_law_complaint" = some (.ref g__law_complaint)) (hk__law_complaint : PySem.W.keepIn K (.ref g__law_complaint) = true) (lk__law_complaint : K.lookup g__law_complaint = some ⟨oc__law_complaint, od__law_complaint, .func (PySem.W.fnOf "_law_complaint" "_law_complaint" (defArgs s__law_complaint) (defBody s__law_complaint) (defScope s__law_complaint) .none kV__law_complaint dc__law_complaint pm__law_complaint an__law_complaint cd__law_complaint ct__law_complaint), sl__law_complaint⟩) (hc__law_complaint : PySem.W.codeIn K cd__law_complaint "_law_complaint" = true)
    {f c : Addr} {oc kV doc pm ct : Value} {od an : Option Addr} {osl : Array (Option Value)} (lk : K.lookup f = some ⟨oc, od, .func (PySem.W.fnOf "law" "law" (defArgs s_law) (defBody s_law) (defScope s_law) .none kV doc pm an (.ref c) ct), osl⟩) (hcd : PySem.W.codeIn K (.ref c) "law" = true) (TB : LamX.TabB base mg c tabP)
    {s : Shared} {H : Hp} {a : Addr} {ns : List Int} (e0 : Env0 P w K mg base callerA [] s H) (hT : H tabP = some (.tbl #[])) (hS : SqL K H a (ns.map V.int)) (hl : ns.length ≤ 63)
    (pure : ∃ e' p', B_law (none :: some (.v .pen) :: List.replicate 19 none) (penOf ns) = .rt (.bl true) e' p') :
    codeAny (model P w) callerA (.call (.ref f) ⟨[.ref a], []⟩) (CR (L2.CX P w) [] P w H s (fun v _ => v = .bl true) (fun _ _ _ => False)) s := by
  have nd : (["script", "pen", "lap", "right", "some", "parts", "why", "bad", "found", "base", "letters", "ends", "steps", "machine", "step", "odd", "numbers", "due", "writing", "letter", "row"] : List Str).Nodup := sc_law.nd
  have hr0 : Room 9 callerA := ⟨rfl, by decide, by decide⟩
  refine LamX.run_ofS (k := 8) (N := ["script", "pen", "lap", "right", "some", "parts", "why", "bad", "found", "base", "letters", "ends", "steps", "machine", "step", "odd", "numbers", "due", "writing", "letter", "row"]) (ps := ["script"]) (us := [.ref a]) (vs := [.ref a]) lk hcd sc_law hr0 e0 (.of_eq rfl) (.cons rfl .nil) rfl fun hr => ?_
  have tk : Takes (cxOf (L2.CX P w) P w K mg base ["script", "pen", "lap", "right", "some", "parts", "why", "bad", "found", "base", "letters", "ends", "steps", "machine", "step", "odd", "numbers", "due", "writing", "letter", "row"] "law" (defScope s_law) f (.ref c) callerA [] s H (fun _ _ _ => False)) (fun cls d _ H => (fun _ _ _ => False : XK) cls d H) := takes_of rfl rfl rfl rfl
  have hgd : (cxOf (L2.CX P w) P w K mg base ["script", "pen", "lap", "right", "some", "parts", "why", "bad", "found", "base", "letters", "ends", "steps", "machine", "step", "odd", "numbers", "due", "writing", "letter", "row"] "law" (defScope s_law) f (.ref c) callerA [] s H (fun _ _ _ => False)).A.guards = some [] := rfl
  have h1 : DSs (cxOf (L2.CX P w) P w K mg base ["script", "pen", "lap", "right", "some", "parts", "why", "bad", "found", "base", "letters", "ends", "steps", "machine", "step", "odd", "numbers", "due", "writing", "letter", "row"] "law" (defScope s_law) f (.ref c) callerA [] s H (fun _ _ _ => False)) (fun cls d _ H => (fun _ _ _ => False : XK) cls d H) (defBody s_law).tail B_law :=
    (dss_cons (ds_for (L2.passes_of rfl) rfl (di_range1 (by rfl) C.m_range (da_cons de_int da_nil)) (dg_name (i := 2) nd rfl) (dss_cons (ds_asg (de_own (j := 0) (dds := []) o__law_frame rfl (by decide) (hr.mono (by decide)) tk (da_cons (de_var 1) da_nil) (ln_def (ln_cons ln_nil) rfl)) (dg_tup rfl (dgs_cons (dg_name (i := 9) nd rfl) (dgs_cons (dg_name (i := 10) nd rfl) dgs_nil))))
    (dss_cons (ds_asg (de_own (j := 0) (dds := []) o__law_drawn rfl (by decide) (hr.mono (by decide)) tk (da_cons (de_var 1) (da_cons (de_var 9) (da_cons (de_callB call_len l_len (by rfl) C.m_len Pd.boot_len (dq_var 10)) (da_cons de_int da_nil)))) (ln_def (ln_cons (ln_cons (ln_cons (ln_cons ln_nil)))) rfl)) (dg_tup rfl (dgs_cons (dg_name (i := 11) nd rfl) (dgs_cons (dg_name (i := 12) nd rfl) dgs_nil))))
    (dss_cons (ds_set (i := 13) nd (de_make (j := 0) (dds := []) o_mk_Machine rfl (by decide) (hr.mono (by decide)) tk (da_cons (de_var 9) (da_cons (de_own (j := 0) (dds := []) o__law_listed rfl (by decide) (hr.mono (by decide)) tk (da_cons (de_var 1) (da_cons (de_var 10) da_nil)) (ln_def (ln_cons (ln_cons ln_nil)) rfl)) (da_cons (de_own (j := 0) (dds := []) o__law_listed rfl (by decide) (hr.mono (by decide)) tk (da_cons (de_var 1) (da_cons (de_var 11) da_nil)) (ln_def (ln_cons (ln_cons ln_nil)) rfl)) (da_cons (de_own (j := 0) (dds := []) o__law_listed rfl (by decide) (hr.mono (by decide)) tk (da_cons (de_var 1) (da_cons ((df_comp (js := []) (own := [("row", 20)]) rfl nd (di_any (de_var 12)) (blkOk_by (own := [("row", 20)]) (by kernel_rfl)) (fun _ _ _ _ _ => (dg_name (i := 20) nd rfl)) (fun _ _ _ _ _ => dts_nil) (fun _ _ _ _ _ => (de_own (j := 0) (dds := []) o__law_listed rfl (by decide) (hr.mono (by decide)) L2.takes0 (da_cons (de_var 1) (da_cons (de_var 20) da_nil)) (ln_def (ln_cons (ln_cons ln_nil)) rfl))))).e da_nil)) (ln_def (ln_cons (ln_cons ln_nil)) rfl)) da_nil)))) (ln_def (ln_cons (ln_cons (ln_cons (ln_cons ln_nil)))) rfl)))
    (dss_cons (ds_if (dt_cmp (op_neD hr.units) l_ne (de_tup (da_cons (de_fld C.T (de_var 13)) (da_cons (de_fld C.T (de_var 13)) (da_cons (de_fld C.T (de_var 13)) (da_cons (de_fld C.T (de_var 13)) (da_cons (de_fld C.T (de_var 13)) da_nil)))))) (de_tup (da_cons (de_var 9) (da_cons (de_callTy call_tuple_of l_tuple (by rfl) C.m_tuple Pd.boot_tuple (dq_var 10)) (da_cons (de_callTy call_tuple_of l_tuple (by rfl) C.m_tuple Pd.boot_tuple (dq_var 11)) (da_cons (de_callTy call_tuple_of l_tuple (by rfl) C.m_tuple Pd.boot_tuple ((df_comp (js := []) (own := [("row", 20)]) rfl nd (di_any (de_var 12)) (blkOk_by (own := [("row", 20)]) (by kernel_rfl)) (fun _ _ _ _ _ => (dg_name (i := 20) nd rfl)) (fun _ _ _ _ _ => dts_nil) (fun _ _ _ _ _ => (de_callTy call_tuple_of l_tuple (by rfl) C.m_tuple Pd.boot_tuple (dq_var 20))))).e.q) (da_cons (de_callB call_len l_len (by rfl) C.m_len Pd.boot_len (dq_var 11)) da_nil)))))).q) (dss_one (ds_ret de_bl)) dss_nil)
    (dss_cons (ds_if (dt_w (dw_or (dt_neO (hu65 hr) (hr.mono (by decide)) C.T o_eq (de_var 13) (de_make (j := 0) (dds := []) o_mk_Machine rfl (by decide) (hr.mono (by decide)) tk (da_cons (de_var 9) (da_cons (de_var 10) (da_cons (de_var 11) (da_cons (de_var 12) da_nil)))) (ln_def (ln_cons (ln_cons (ln_cons (ln_cons ln_nil)))) rfl))) (dw_or1 (dt_eqO (hu65 hr) (hr.mono (by decide)) C.T o_eq (de_var 13) (de_tup (da_cons (de_var 11) (da_cons (de_var 12) da_nil))))))) (dss_one (ds_ret de_bl)) dss_nil)
    (dss_cons (ds_for (L2.passes_of rfl) rfl (di_range1 (by rfl) C.m_range (da_cons de_int da_nil)) (dg_name (i := 14) nd rfl) (dss_cons (ds_setComp (i := 16) (js := []) (own := [("letter", 19)]) rfl nd rfl (by rfl) (di_any (de_var 10)) (blkOk_by (own := [("letter", 19)]) (by kernel_rfl)) (fun _ _ _ _ _ => (dg_name (i := 19) nd rfl)) (fun _ _ _ _ _ => dts_nil) (fun _ _ _ _ _ => (de_own (j := 0) (dds := []) o__law_draw rfl (by decide) (hr.mono (by decide)) L2.takes0 (da_cons (de_var 1) (da_cons (de_own (j := 0) (dds := []) o__law_pick rfl (by decide) (hr.mono (by decide)) L2.takes0 (da_cons (de_var 1) (da_cons ((df_lst (da_cons de_int (da_cons de_int (da_cons de_int da_nil))))).e da_nil)) (ln_def (ln_cons (ln_cons ln_nil)) rfl)) da_nil)) (ln_def (ln_cons (ln_cons ln_nil)) rfl))))
    (dss_cons (ds_set (i := 17) nd (de_own (j := 0) (dds := []) o__law_is_taken rfl (by decide) (hr.mono (by decide)) tk (da_cons (de_var 11) (da_cons (de_var 12) (da_cons (de_var 16) (da_cons (de_var 9) da_nil)))) (ln_def (ln_cons (ln_cons (ln_cons (ln_cons ln_nil)))) rfl)))
    (dss_cons (ds_if (dt_not (dt_truth (de_own (j := 0) (dds := []) o__law_is_truth rfl (by decide) (hr.mono (by decide)) tk (da_cons (de_own (j := 0) (dds := []) o_accepts rfl (by decide) (hr.mono (by decide)) tk (da_cons (de_var 13) (da_cons (de_own (j := 0) (dds := []) o__law_listed rfl (by decide) (hr.mono (by decide)) tk (da_cons (de_var 1) (da_cons (de_var 16) da_nil)) (ln_def (ln_cons (ln_cons ln_nil)) rfl)) da_nil)) (ln_def (ln_cons (ln_cons ln_nil)) rfl)) (da_cons (de_var 17) da_nil)) (ln_def (ln_cons (ln_cons ln_nil)) rfl)).q)) (dss_one (ds_ret de_bl)) dss_nil)
    (dss_cons (ds_set (i := 18) nd (de_bin op_add4 l_add (de_bin op_mul4 l_mul3 ((df_lst (da_cons de_int da_nil))).e (de_own (j := 0) (dds := []) o__law_draw rfl (by decide) (hr.mono (by decide)) tk (da_cons (de_var 1) (da_cons de_int da_nil)) (ln_def (ln_cons (ln_cons ln_nil)) rfl)).q) (de_own (j := 0) (dds := []) o__law_columns rfl (by decide) (hr.mono (by decide)) tk (da_cons (de_var 16) (da_cons (de_var 9) da_nil)) (ln_def (ln_cons (ln_cons ln_nil)) rfl)).q))
    (dss_one (ds_if (dt_not (dt_truth (de_own (j := 0) (dds := []) o__law_is_truth rfl (by decide) (hr.mono (by decide)) tk (da_cons (de_own (j := 0) (dds := []) o_accepts_writing rfl (by decide) (hr.mono (by decide)) tk (da_cons (de_var 13) (da_cons (de_own (j := 0) (dds := []) o__law_listed rfl (by decide) (hr.mono (by decide)) tk (da_cons (de_var 1) (da_cons (de_var 18) da_nil)) (ln_def (ln_cons (ln_cons ln_nil)) rfl)) da_nil)) (ln_def (ln_cons (ln_cons ln_nil)) rfl)) (da_cons (de_var 17) da_nil)) (ln_def (ln_cons (ln_cons ln_nil)) rfl)).q)) (dss_one (ds_ret de_bl)) dss_nil)))))))
    (dss_cons (ds_set (i := 15) nd (de_own (j := 0) (dds := []) o__law_pick rfl (by decide) (hr.mono (by decide)) tk (da_cons (de_var 1) (da_cons ((df_lst (da_cons de_non (da_cons de_int (da_cons (de_if (dt_cmp (op_neD hr.units) l_ne (de_var 10) ((df_lst da_nil)).e.q) (de_bin op_mul4 l_mul3 ((df_lst (da_cons (de_neg de_int) da_nil))).e (de_callB call_len l_len (by rfl) C.m_len Pd.boot_len (dq_var 10)).q) ((df_lst (da_cons de_int da_nil))).e) (da_cons (de_bin op_mul4 l_mul3 ((df_lst (da_cons de_int da_nil))).e (de_bin op_add4 l_add (de_callB call_len l_len (by rfl) C.m_len Pd.boot_len (dq_var 10)) de_int.q).q) (da_cons (de_if (dt_cmp (op_neD hr.units) l_ne (de_var 10) ((df_lst da_nil)).e.q) (de_bin op_mul4 l_mul3 ((df_lst (da_cons de_bl da_nil))).e (de_callB call_len l_len (by rfl) C.m_len Pd.boot_len (dq_var 10)).q) de_str) (da_cons (de_bin op_mul4 l_mul3 ((df_lst (da_cons de_str da_nil))).e (de_bin op_add4 l_add (de_callB call_len l_len (by rfl) C.m_len Pd.boot_len (dq_var 10)) de_int.q).q) da_nil)))))))).e da_nil)) (ln_def (ln_cons (ln_cons ln_nil)) rfl)))
    (dss_cons (ds_if (dt_cmp (op_neD hr.units) l_ne (lam__law_complaint (k := 6) C hm__law_complaint hk__law_complaint lk__law_complaint hc__law_complaint hgd TB rfl rfl (hr.mono (by decide)) (by rfl) (LamX.lamS_by (by kernel_rfl)) rfl (fun _ _ _ _ _ => rfl) fun A outer s H E f c2 hrl tkl => (de_own (j := 0) (dds := []) o_accepts rfl (by decide) (hrl.mono (by decide)) tkl (da_cons (de_var 13) (da_cons (de_var 15) da_nil)) (ln_def (ln_cons (ln_cons ln_nil)) rfl))) (de_tup (da_cons de_str (da_cons (de_callB (call_reprD hgd (hu150 hr)) l_repr (by rfl) C.m_repr Pd.boot_repr (dq_var 15)) da_nil))).q) (dss_one (ds_ret de_bl)) dss_nil)
    (dss_cons (ds_set (i := 15) nd (de_own (j := 0) (dds := []) o__law_pick rfl (by decide) (hr.mono (by decide)) tk (da_cons (de_var 1) (da_cons ((df_lst (da_cons de_non (da_cons de_int (da_cons ((df_lst (da_cons (de_neg de_int) da_nil))).e (da_cons ((df_lst (da_cons (de_callB call_len l_len (by rfl) C.m_len Pd.boot_len (de_ix (de_var 12) de_int.q).q) da_nil))).e (da_cons ((df_lst (da_cons de_bl da_nil))).e (da_cons ((df_lst (da_cons de_str da_nil))).e da_nil)))))))).e da_nil)) (ln_def (ln_cons (ln_cons ln_nil)) rfl)))
    (dss_one (ds_if (dt_cmp (op_neD hr.units) l_ne (lam__law_complaint (k := 6) C hm__law_complaint hk__law_complaint lk__law_complaint hc__law_complaint hgd TB rfl rfl (hr.mono (by decide)) (by rfl) (LamX.lamS_by (by kernel_rfl)) rfl (fun _ _ _ _ _ => rfl) fun A outer s H E f c2 hrl tkl => (de_own (j := 0) (dds := []) o_accepts_writing rfl (by decide) (hrl.mono (by decide)) tkl (da_cons (de_var 13) (da_cons (de_var 15) da_nil)) (ln_def (ln_cons (ln_cons ln_nil)) rfl))) (de_tup (da_cons de_str (da_cons (de_callB (call_reprD hgd (hu150 hr)) l_repr (by rfl) C.m_repr Pd.boot_repr (dq_var 15)) da_nil))).q) (dss_one (ds_ret de_bl)) dss_nil))))))))))))
    (dss_cons (ds_set (i := 3) nd (de_tup (da_cons de_int (da_cons ((df_lst (da_cons de_str da_nil))).e (da_cons ((df_lst (da_cons de_int (da_cons de_int da_nil)))).e (da_cons ((df_lst (da_cons ((df_lst (da_cons de_int (da_cons de_int da_nil)))).e (da_cons ((df_lst (da_cons de_int (da_cons de_int da_nil)))).e da_nil)))).e da_nil))))))
    (dss_cons (ds_set (i := 4) nd ((df_lst (da_cons (de_tup (da_cons (de_tup (da_cons de_int (da_cons de_non (da_cons de_non (da_cons de_non da_nil))))) (da_cons de_str da_nil))) (da_cons (de_tup (da_cons (de_tup (da_cons de_int (da_cons de_non (da_cons de_non (da_cons de_non da_nil))))) (da_cons de_str da_nil))) (da_cons (de_tup (da_cons (de_tup (da_cons de_bl (da_cons de_non (da_cons de_non (da_cons de_non da_nil))))) (da_cons de_str da_nil))) (da_cons (de_tup (da_cons (de_tup (da_cons de_int (da_cons de_non (da_cons de_non (da_cons de_non da_nil))))) (da_cons de_str da_nil))) (da_cons (de_tup (da_cons (de_tup (da_cons de_int (da_cons ((df_lst (da_cons de_str (da_cons de_str da_nil)))).e (da_cons de_non (da_cons de_non da_nil))))) (da_cons de_str da_nil))) da_nil))))))).e)
    (dss_cons (ds_set (i := 4) nd (de_bin op_add4 l_add (de_var 4) ((df_lst (da_cons (de_tup (da_cons (de_tup (da_cons de_int (da_cons ((df_lst (da_cons de_str (da_cons de_str da_nil)))).e (da_cons de_non (da_cons de_non da_nil))))) (da_cons de_str da_nil))) (da_cons (de_tup (da_cons (de_tup (da_cons de_int (da_cons ((df_lst (da_cons de_str (da_cons de_str (da_cons de_str da_nil))))).e (da_cons de_non (da_cons de_non da_nil))))) (da_cons de_str da_nil))) (da_cons (de_tup (da_cons (de_tup (da_cons de_int (da_cons ((df_lst (da_cons de_str da_nil))).e (da_cons de_non (da_cons de_non da_nil))))) (da_cons de_str da_nil))) (da_cons (de_tup (da_cons (de_tup (da_cons de_int (da_cons ((df_lst (da_cons de_str da_nil))).e (da_cons ((df_lst da_nil)).e (da_cons de_non da_nil))))) (da_cons de_str da_nil))) (da_cons (de_tup (da_cons (de_tup (da_cons de_int (da_cons ((df_lst (da_cons de_str da_nil))).e (da_cons ((df_lst (da_cons de_int (da_cons de_int da_nil)))).e (da_cons de_non da_nil))))) (da_cons de_str da_nil))) da_nil))))))).e.q))
    (dss_cons (ds_set (i := 4) nd (de_bin op_add4 l_add (de_var 4) ((df_lst (da_cons (de_tup (da_cons (de_tup (da_cons de_int (da_cons ((df_lst (da_cons de_str da_nil))).e (da_cons ((df_lst (da_cons de_int (da_cons de_bl da_nil)))).e (da_cons de_non da_nil))))) (da_cons de_str da_nil))) (da_cons (de_tup (da_cons (de_tup (da_cons de_int (da_cons ((df_lst (da_cons de_str da_nil))).e (da_cons ((df_lst (da_cons de_int (da_cons de_int da_nil)))).e (da_cons ((df_lst (da_cons ((df_lst (da_cons de_int (da_cons de_int da_nil)))).e da_nil))).e da_nil))))) (da_cons de_str da_nil))) (da_cons (de_tup (da_cons (de_tup (da_cons de_int (da_cons ((df_lst (da_cons de_str da_nil))).e (da_cons ((df_lst (da_cons de_int (da_cons de_int da_nil)))).e (da_cons ((df_lst (da_cons ((df_lst (da_cons de_int (da_cons de_int da_nil)))).e (da_cons ((df_lst (da_cons de_int da_nil))).e da_nil)))).e da_nil))))) (da_cons de_str da_nil))) (da_cons (de_tup (da_cons (de_tup (da_cons de_int (da_cons ((df_lst (da_cons de_str da_nil))).e (da_cons ((df_lst (da_cons de_int (da_cons de_int da_nil)))).e (da_cons ((df_lst (da_cons ((df_lst (da_cons de_int (da_cons de_int da_nil)))).e (da_cons ((df_lst (da_cons de_int (da_cons de_int da_nil)))).e da_nil)))).e da_nil))))) (da_cons de_str da_nil))) da_nil)))))).e.q))
    (dss_cons (ds_set (i := 4) nd (de_bin op_add4 l_add (de_var 4) ((df_lst (da_cons (de_tup (da_cons (de_tup (da_cons de_int (da_cons ((df_lst (da_cons de_str da_nil))).e (da_cons ((df_lst (da_cons de_int (da_cons de_int da_nil)))).e (da_cons ((df_lst (da_cons ((df_lst (da_cons de_int (da_cons de_int da_nil)))).e (da_cons ((df_lst (da_cons de_int (da_cons de_bl da_nil)))).e da_nil)))).e da_nil))))) (da_cons de_str da_nil))) (da_cons (de_tup (da_cons (de_tup (da_cons de_int (da_cons ((df_lst (da_cons de_str da_nil))).e (da_cons ((df_lst (da_cons de_int (da_cons de_int da_nil)))).e (da_cons ((df_lst (da_cons ((df_lst (da_cons de_int (da_cons de_int da_nil)))).e (da_cons ((df_lst (da_cons de_int (da_cons de_int da_nil)))).e da_nil)))).e da_nil))))) (da_cons de_str da_nil))) (da_cons (de_tup (da_cons (de_tup (da_cons de_int (da_cons ((df_lst (da_cons de_str da_nil))).e (da_cons de_non (da_cons ((df_lst (da_cons ((df_lst (da_cons de_int (da_cons de_int da_nil)))).e (da_cons ((df_lst (da_cons de_int (da_cons de_int da_nil)))).e da_nil)))).e da_nil))))) (da_cons de_str da_nil))) da_nil))))).e.q))
    (dss_cons (ds_for (L2.passes_of rfl) rfl (di_any (de_sl (de_own (j := 0) (dds := []) o__law_shuffled rfl (by decide) (hr.mono (by decide)) tk (da_cons (de_var 1) (da_cons (de_var 4) da_nil)) (ln_def (ln_cons (ln_cons ln_nil)) rfl)) do_none (do_some de_int))) (dg_tup rfl (dgs_cons (dg_name (i := 5) nd rfl) (dgs_cons (dg_name (i := 6) nd rfl) dgs_nil))) (dss_one (ds_if (dt_cmp (op_neD hr.units) l_ne (lam__law_complaint (k := 6) C hm__law_complaint hk__law_complaint lk__law_complaint hc__law_complaint hgd TB rfl rfl (hr.mono (by decide)) (by rfl) (LamX.lamS_by (by kernel_rfl)) rfl (fun _ _ _ _ _ => rfl) fun A outer s H E f c2 hrl tkl => (de_make (j := 0) (dds := []) o_mk_Machine rfl (by decide) (hrl.mono (by decide)) tkl (da_cons (de_ix (de_var 5) de_int.q) (da_cons (de_ix (de_var 5) de_int.q) (da_cons (de_ix (de_var 5) de_int.q) (da_cons (de_ix (de_var 5) de_int.q) da_nil)))) (ln_def (ln_cons (ln_cons (ln_cons (ln_cons ln_nil)))) rfl))) (de_tup (da_cons de_str (da_cons (de_var 6) da_nil))).q) (dss_one (ds_ret de_bl)) dss_nil)))
    (dss_cons (ds_if (dt_eqO (hu65 hr) (hr.mono (by decide)) C.T o_eq (de_make (j := 0) (dds := []) o_mk_Machine rfl (by decide) (hr.mono (by decide)) tk (da_cons (de_ix (de_var 3) de_int.q) (da_cons (de_ix (de_var 3) de_int.q) (da_cons (de_ix (de_var 3) de_int.q) (da_cons (de_ix (de_var 3) de_int.q) da_nil)))) (ln_def (ln_cons (ln_cons (ln_cons (ln_cons ln_nil)))) rfl)) (de_make (j := 0) (dds := []) o_mk_Machine rfl (by decide) (hr.mono (by decide)) tk (da_cons de_int (da_cons ((df_lst (da_cons de_str da_nil))).e (da_cons (de_ix (de_var 3) de_int.q) (da_cons (de_ix (de_var 3) de_int.q) da_nil)))) (ln_def (ln_cons (ln_cons (ln_cons (ln_cons ln_nil)))) rfl))) (dss_one (ds_ret de_bl)) dss_nil)
    (dss_cons (ds_set (i := 7) nd (de_own (j := 0) (dds := []) o__law_pick rfl (by decide) (hr.mono (by decide)) tk (da_cons (de_var 1) (da_cons ((df_lst (da_cons de_non (da_cons de_int (da_cons (de_var 3) da_nil))))).e da_nil)) (ln_def (ln_cons (ln_cons ln_nil)) rfl)))
    (dss_cons (ds_own (i := 8) nd (df_lst (da_cons (lam__law_complaint (k := 6) C hm__law_complaint hk__law_complaint lk__law_complaint hc__law_complaint hgd TB rfl rfl (hr.mono (by decide)) (by rfl) (LamX.lamS_by (by kernel_rfl)) rfl (fun _ _ _ _ _ => rfl) fun A outer s H E f c2 hrl tkl => (de_own (j := 0) (dds := []) o_accepts rfl (by decide) (hrl.mono (by decide)) tkl (da_cons (de_var 7) (da_cons de_non da_nil)) (ln_def (ln_cons (ln_cons ln_nil)) rfl))) da_nil)))
    (dss_cons (ds_append (j := 8) (lam__law_complaint (k := 6) C hm__law_complaint hk__law_complaint lk__law_complaint hc__law_complaint hgd TB rfl rfl (hr.mono (by decide)) (by rfl) (LamX.lamS_by (by kernel_rfl)) rfl (fun _ _ _ _ _ => rfl) fun A outer s H E f c2 hrl tkl => (de_own (j := 0) (dds := []) o_accepts_writing rfl (by decide) (hrl.mono (by decide)) tkl (da_cons (de_var 7) (da_cons de_non da_nil)) (ln_def (ln_cons (ln_cons ln_nil)) rfl))) (hm := fun t h => pe_bm PySem.F.plainAttrs_list PySem.F.slot_list_append PySem.F.type_list_append mt_append (pv 8) (pa_cons h pa_nil)))
    (dss_one (ds_ret (de_cmp (op_eqD hr.units) l_eq (de_var 8) (de_bin op_mul4 l_mul3 ((df_lst (da_cons (de_tup (da_cons de_str (da_cons (de_callB (call_reprD hgd (hu150 hr)) l_repr (by rfl) C.m_repr Pd.boot_repr (dq_var 7)) da_nil))) da_nil))).e de_int.q).q))))))))))))))
  have bP : L2.Binds K fdp ["script"] [] := FP.bindsN fun kV doc pm an cdv ct us hl => match us, hl with | [_], _ => rfl
  refine ⟨_, pss_cons (ps_set (i := 1) nd rfl (by first | exact Or.inl rfl | exact Or.inr rfl) (pe_callS (fn_pen C FP) (hr.mono (by decide)) rfl mP FP.kp bP (fun σ => passAt tk σ) (pa_cons (pv 0) pa_nil))) h1, ?_⟩
  refine ⟨.ref a, rfl, a, ns, rfl, hS, by omega, fun pd ca H' h2 h3 h4 h5 h6 h7 => ?_⟩
  exact law_tS hT h2 h3 h4 h5 h6 h7 pure (funext fun _ => by simp)
structure TellAt__law_complaint (K : PySem.W.Frag) (mg : Str → Option Value) : Prop where
  ex : ∃ (g : Addr) (oc kV dc pm cd ct : Value) (od an : Option Addr) (sl : Array (Option Value)), mg "_law_complaint" = some (.ref g) ∧ PySem.W.keepIn K (.ref g) = true ∧ K.lookup g = some ⟨oc, od, .func (PySem.W.fnOf "_law_complaint" "_law_complaint" (defArgs s__law_complaint) (defBody s__law_complaint) (defScope s__law_complaint) .none kV dc pm an cd ct), sl⟩ ∧ PySem.W.codeIn K cd "_law_complaint" = true
theorem tell_at__law_complaint {h : Heap} {g : Addr} {oc kV dc pm cd ct : Value} {od an : Option Addr} {sl : Array (Option Value)} (X : K.In h) (G : h.Ns mainGlobals mg) (a : PySem.W.nsIn K mainGlobals "_law_complaint" = some (some (.ref g))) (l : K.lookup g = some ⟨oc, od, .func (PySem.W.fnOf "_law_complaint" "_law_complaint" (defArgs s__law_complaint) (defBody s__law_complaint) (defScope s__law_complaint) .none kV dc pm an cd ct), sl⟩) (c : PySem.W.codeIn K cd "_law_complaint" = true) (k : PySem.W.keepIn K (.ref g) = true) : TellAt__law_complaint K mg := ⟨g, oc, kV, dc, pm, cd, ct, od, an, sl, PySem.W.mg_of X G a, k, l, c⟩
theorem fin {h : Heap} {fa : Addr} (C : Cst P w K mg) (X : K.In h) (G : h.Ns mainGlobals mg) (hfa : mg "law" = some (.ref fa)) (o__law_frame : ∀ base, Own P w K mg base 3 "_law_frame" ["pen"] F__law_frame []) (o__law_drawn : ∀ base, Own P w K mg base 2 "_law_drawn" ["pen", "base", "many", "most"] F__law_drawn []) (o_mk_Machine : ∀ base, MkO P w K mg base 4 "Machine" 4 I_Machine []) (o__law_listed : ∀ base, Own P w K mg base 2 "_law_listed" ["pen", "row"] F__law_listed []) (o_eq : ∀ base, ∀ q ∈ Teq, EqM P w K mg base 1 q.1 q.2 ∧ ∃ fl, (q.1, fl) ∈ cs) (o__law_draw : ∀ base, Own P w K mg base 1 "_law_draw" ["pen", "many"] F__law_draw []) (o__law_pick : ∀ base, Own P w K mg base 2 "_law_pick" ["pen", "some"] F__law_pick []) (o__law_is_taken : ∀ base, Own P w K mg base 3 "_law_is_taken" ["ends", "steps", "numbers", "base"] F__law_is_taken []) (o__law_is_truth : ∀ base, Own P w K mg base 1 "_law_is_truth" ["value", "due"] F__law_is_truth []) (o_accepts : ∀ base, Own P w K mg base 6 "accepts" ["machine", "numbers"] F_accepts []) (o__law_columns : ∀ base, Own P w K mg base 2 "_law_columns" ["numbers", "base"] F__law_columns []) (o_accepts_writing : ∀ base, Own P w K mg base 3 "accepts_writing" ["machine", "writing"] F_accepts_writing []) (o__law_shuffled : ∀ base, Own P w K mg base 2 "_law_shuffled" ["pen", "some"] F__law_shuffled []) {fp : Addr} {fdp : FuncData} (FP : FunD K "_law_pen" "_law_pen" (defArgs s__law_pen) (defBody s__law_pen) (defScope s__law_pen) [] [] fp fdp) (mP : mg "_law_pen" = some (.ref fp)) (t__law_complaint : TellAt__law_complaint K mg)
    {f c : Addr} {oc kV doc pm ct : Value} {od an cdd : Option Addr} {osl csl : Array (Option Value)} {vs : Array Value} {file : Str} {tf tg tt : Tok} {flags text : Int} {inF : Bool} (a : PySem.W.nsIn K mainGlobals "law" = some (some (.ref f))) (lk : K.lookup f = some ⟨oc, od, .func (PySem.W.fnOf "law" "law" (defArgs s_law) (defBody s_law) (defScope s_law) .none kV doc pm an (.ref c) ct), osl⟩) (hcd : PySem.W.codeIn K (.ref c) "law" = true) (lc : K.lookup c = some ⟨.type "code", cdd, .fields vs, csl⟩)
    (q11 : vs[11]? = some (.ref tabP)) (q11b : vs.getD 11 .none = .ref tabP) (q18 : vs.getD 18 .none = .str file tf) (q7 : vs.getD 7 .none = .int flags tg) (q9 : vs.getD 9 .none = .bool inF) (q10 : vs.getD 10 .none = .int text tt) (qn : c ≠ tabP) (nT : K.lookup tabP = none)
    (pure : ∀ ns : List Int, ns.length ≤ 63 → (∀ z ∈ ns, Builtin.Int.intBits z ≤ 1048576) → ∃ e' p', B_law (none :: some (.v .pen) :: List.replicate 19 none) (penOf ns) = .rt (.bl true) e' p') :
    ∃ (c T : Addr) (o : Obj) (fd : FuncData) (e : Value) (dd : Option Addr) (vs : Array Value) (sl : Array (Option Value)), K.lookup fa = some o ∧ o.data = .func fd ∧ fd.code = .ref c ∧ K.lookup c = some ⟨e, dd, .fields vs, sl⟩ ∧ vs[11]? = some (.ref T) ∧ K.lookup T = none ∧ PySem.W.CodeHd h c T ∧
      ∀ (s₁ : Shared) (a : Addr) (ns : List Int), ns.length ≤ 63 → (∀ z ∈ ns, Builtin.Int.intBits z ≤ 1048576) → ∀ (base : Heap) (H : Hp), K.In base → base.Ns mainGlobals mg → LamX.TabB base mg c T → Env0 P w K mg base callerA [] s₁ H → H T = some (.tbl #[]) → SqL K H a (ns.map V.int) →
        codeAny (model P w) callerA (.call (.ref fa) ⟨[.ref a], []⟩) (CR (L2.CX P w) [] P w H s₁ (fun v _ => v = .bl true) (fun _ _ _ => False)) s₁ := by
  have e := hfa.symm.trans (PySem.W.mg_of X G a)
  cases e
  obtain ⟨g__law_complaint, oc__law_complaint, kV__law_complaint, dc__law_complaint, pm__law_complaint, cd__law_complaint, ct__law_complaint, od__law_complaint, an__law_complaint, sl__law_complaint, hm__law_complaint, hk__law_complaint, lk__law_complaint, hc__law_complaint⟩ := t__law_complaint.ex
  refine ⟨c, tabP, _, _, _, _, vs, _, lk, rfl, rfl, lc, q11, nT, ⟨_, vs, file, tf, flags, tg, inF, text, tt, X _ _ lc, rfl, rfl, q11, q11b, q18, q7, q9, q10, qn⟩, fun s₁ a ns h1 h2 base H KB GB TB e0 hT hS => ?_⟩
  exact law_run (base := base) C (o__law_frame base) (o__law_drawn base) (o_mk_Machine base) (o__law_listed base) (o_eq base) (o__law_draw base) (o__law_pick base) (o__law_is_taken base) (o__law_is_truth base) (o_accepts base) (o__law_columns base) (o_accepts_writing base) (o__law_shuffled base) FP mP hm__law_complaint hk__law_complaint lk__law_complaint hc__law_complaint lk hcd TB e0 hT hS h1 (pure ns h1 h2)
end
end K09

namespace K09
open PySem PySem.Spec L2 Pd
theorem draw_eq {n : Nat} {p : Pen} {many : Int} (h : PenOk n p) (hn : n ≤ 1000000000000) (hm : 0 < many) (hm2 : many.natAbs < 2 ^ 200) : F__law_draw [.pen, .int many] p = .ok (.int (drawP p many).1) (drawP p many).2 := by
  have hl : many.natAbs.log2 < 9000 := Nat.lt_trans (log_lt hm2 (by decide)) (by decide)
  have q := drawA_ok h
  -- the first statement
  have s1 : ∀ e, sPen 0 "count" (eBin addD (ePen 0 "count") (eC (.int 1))) (some (.v .pen) :: e) p = .nx (some (.v .pen) :: e) { p with count := p.count + 1 } := fun e => by
    simp [mkF, sSeq, SR.seq, sRet, sExpr, sIf, sAsg, gN, toS, Res.bind, aCons, aNil, eVar, eLook, eC, eBin, eUn, optR, eCall, tmB, tmE, tmAnd, tmOr, tmNot, eAnd, eOr, eNot, ePen, sPen, addD, subD, mulD3, mulD, divD, modD, powD, ltD, leD, gtD, geD, intOp, intD, lenD, sNext, boD, truD, pg1, pg2, pg3, pg4, pg5, ps2, ps3, ps4, ps5, eqD_int]
  have s2 : ∀ e0 e1 e2 e4, ∃ x3, (sIf (tmAnd (tmB (eBin eqD (ePen 0 "digits") (eC (.int 0)))) (tmB (eBin ltD (ePen 0 "at") (eUn lenD (ePen 0 "cells"))))) (sSeq (sAsg (eBin ixD (ePen 0 "cells") (ePen 0 "at")) (gN 3))
    (sSeq (sPen 0 "at" (eBin addD (ePen 0 "at") (eC (.int 1))))
    (sIf (tmB (eBin geD (eVar 3) (eBin powD (eC (.int 10)) (eC (.int 18))))) (sPen 0 "digits" (eBin subD (eVar 3) (eBin powD (eC (.int 10)) (eC (.int 18))))) (sPen 0 "fold" (eBin modD (eUn intD (eBin addD (eBin mulD3 (ePen 0 "fold") (eC (.int 69069))) (eLook 3))) (eC (.int 2147483587))))))) (sNext))
      [some (.v .pen), e0, e1, e2, e4] { p with count := p.count + 1 } = .nx [some (.v .pen), e0, e1, x3, e4] (drawA p) := fun e0 e1 e2 e4 => by
    have hd := h.dig
    have ha := h.at0
    unfold drawA
    dsimp only
    by_cases c1 : p.digits = 0
    · by_cases c2 : p.at_ < p.cells.length
      · obtain ⟨c, hc⟩ : ∃ c, p.cells[p.at_.toNat]? = some c := ⟨_, List.getElem?_eq_getElem (by omega)⟩
        have hx : ixD (.lst (p.cells.map D.int)) (.int p.at_) = some (.int c) := ixD_lst ha (by rw [List.getElem?_map, hc]; rfl)
        have hlg : p.fold.natAbs.log2 + Nat.log2 69069 < 1000000 := by
          have f := h.fld
          have h1 : p.fold.natAbs < 2 ^ 31 := by omega
          have h2 := log_lt h1 (by decide)
          have h3 : Nat.log2 69069 = 16 := by decide +kernel
          omega
        by_cases c3 : 1000000000000000000 ≤ c
        · refine ⟨some (.v (.int c)), ?_⟩
          simp [mkF, sSeq, SR.seq, sRet, sExpr, sIf, sAsg, gN, toS, Res.bind, aCons, aNil, eVar, eLook, eC, eBin, eUn, optR, eCall, tmB, tmE, tmAnd, tmOr, tmNot, eAnd, eOr, eNot, ePen, sPen, addD, subD, mulD3, mulD, divD, modD, powD, ltD, leD, gtD, geD, intOp, intD, lenD, sNext, boD, truD, pg1, pg2, pg3, pg4, pg5, ps2, ps3, ps4, ps5, eqD_int, c1, c2, hc, hx, c3]
        · refine ⟨some (.v (.int c)), ?_⟩
          simp [mkF, sSeq, SR.seq, sRet, sExpr, sIf, sAsg, gN, toS, Res.bind, aCons, aNil, eVar, eLook, eC, eBin, eUn, optR, eCall, tmB, tmE, tmAnd, tmOr, tmNot, eAnd, eOr, eNot, ePen, sPen, addD, subD, mulD3, mulD, divD, modD, powD, ltD, leD, gtD, geD, intOp, intD, lenD, sNext, boD, truD, pg1, pg2, pg3, pg4, pg5, ps2, ps3, ps4, ps5, eqD_int, c1, c2, hc, hx, c3, hlg]
      · refine ⟨e2, ?_⟩
        simp [mkF, sSeq, SR.seq, sRet, sExpr, sIf, sAsg, gN, toS, Res.bind, aCons, aNil, eVar, eLook, eC, eBin, eUn, optR, eCall, tmB, tmE, tmAnd, tmOr, tmNot, eAnd, eOr, eNot, ePen, sPen, addD, subD, mulD3, mulD, divD, modD, powD, ltD, leD, gtD, geD, intOp, intD, lenD, sNext, boD, truD, pg1, pg2, pg3, pg4, pg5, ps2, ps3, ps4, ps5, eqD_int, c1, c2]
    · refine ⟨e2, ?_⟩
      simp [mkF, sSeq, SR.seq, sRet, sExpr, sIf, sAsg, gN, toS, Res.bind, aCons, aNil, eVar, eLook, eC, eBin, eUn, optR, eCall, tmB, tmE, tmAnd, tmOr, tmNot, eAnd, eOr, eNot, ePen, sPen, addD, subD, mulD3, mulD, divD, modD, powD, ltD, leD, gtD, geD, intOp, intD, lenD, sNext, boD, truD, pg1, pg2, pg3, pg4, pg5, ps2, ps3, ps4, ps5, eqD_int, c1]
  obtain ⟨x3, h2⟩ := s2 (some (.v (.int many))) none none none
  have e1 := s1 [some (.v (.int many)), none, none, none]
  generalize hA : drawA p = a at q h2
  have hlg : a.count.natAbs.log2 + Nat.log2 7907 < 1000000 := by
    have f := q.cnt
    have h1 : a.count.natAbs < 2 ^ 60 := by omega
    have h2 := log_lt h1 (by decide)
    have h3 : Nat.log2 7907 = 12 := by decide +kernel
    omega
  have hpw : (a.fold + a.count * 7907 + 37).natAbs < 2 ^ 64 := by
    have f := q.cnt
    have f2 := q.fld
    omega
  have hB : ∃ e', B__law_draw [some (.v .pen), some (.v (.int many)), none, none, none] p = .rt (.int (drawP p many).1) e' (drawP p many).2 := by
    unfold B__law_draw drawP
    rw [hA]
    rw [sSeq_nx e1, sSeq_nx h2]
    by_cases c1 : 0 < a.digits
    · have hlm : 0 < many ∧ many.natAbs.log2 < 9000 := ⟨hm, hl⟩
      simp [mkF, sSeq, SR.seq, sRet, sExpr, sIf, sAsg, gN, toS, Res.bind, aCons, aNil, eVar, eLook, eC, eBin, eUn, optR, eCall, tmB, tmE, tmAnd, tmOr, tmNot, eAnd, eOr, eNot, ePen, sPen, addD, subD, mulD3, mulD, divD, modD, powD, ltD, leD, gtD, geD, intOp, intD, lenD, sNext, boD, truD, pg1, pg2, pg3, pg4, pg5, ps2, ps3, ps4, ps5, eqD_int, c1, hm, hlm]
    · have h128 : Nat.log2 128 < 9000 := by decide +kernel
      simp [mkF, sSeq, SR.seq, sRet, sExpr, sIf, sAsg, gN, toS, Res.bind, aCons, aNil, eVar, eLook, eC, eBin, eUn, optR, eCall, tmB, tmE, tmAnd, tmOr, tmNot, eAnd, eOr, eNot, ePen, sPen, addD, subD, mulD3, mulD, divD, modD, powD, ltD, leD, gtD, geD, intOp, intD, lenD, sNext, boD, truD, pg1, pg2, pg3, pg4, pg5, ps2, ps3, ps4, ps5, eqD_int, c1, hm, hlg, hpw, h128]
  obtain ⟨e', hB⟩ := hB
  unfold F__law_draw mkF
  show (match B__law_draw [some (.v .pen), some (.v (.int many)), none, none, none] p with | .nx _ p' => FR.ok .non p' | .rt d _ p' => .ok d p' | .exc x _ p' => .exc x p' | _ => .bad) = _
  rw [hB]
theorem draw {n : Nat} {p : Pen} {many : Int} (h : PenOk n p) (hn : n ≤ 1000000000000) (hm : 0 < many) (hm2 : many.natAbs < 2 ^ 200) : ∃ r p', F__law_draw [.pen, .int many] p = .ok (.int r) p' ∧ 0 ≤ r ∧ r < many ∧ PenOk (n + 1) p' :=
  ⟨_, _, draw_eq h hn hm hm2, (drawP_ok h hm).2.1, (drawP_ok h hm).2.2, (drawP_ok h hm).1⟩
theorem pick {n : Nat} {p : Pen} {xs : List D} (h : PenOk n p) (hn : n ≤ 1000000000000) (hm : 0 < xs.length) (hm2 : xs.length ≤ 1000000) : ∃ (r : Nat) (x : D) (p' : Pen), F__law_pick [.pen, .lst xs] p = .ok x p' ∧ xs[r]? = some x ∧ PenOk (n + 1) p' := by
  obtain ⟨r, p', h1, h2, h3, h4⟩ := draw (many := (xs.length : Int)) h hn (by omega) (by
    show xs.length < 2 ^ 200
    exact Nat.lt_of_le_of_lt hm2 (by decide))
  obtain ⟨x, hx⟩ : ∃ x, xs[r.toNat]? = some x := ⟨_, List.getElem?_eq_getElem (by omega)⟩
  refine ⟨r.toNat, x, p', ?_, hx, h4⟩
  have hix := ixD_lst (xs := xs) h2 hx
  simp [mkF, sSeq, SR.seq, sRet, sExpr, sIf, sAsg, gN, toS, Res.bind, aCons, aNil, eVar, eLook, eC, eBin, eUn, optR, eCall, tmB, tmE, tmAnd, tmOr, tmNot, eAnd, eOr, eNot, ePen, sPen, addD, subD, mulD3, mulD, divD, modD, powD, ltD, leD, gtD, geD, intOp, intD, lenD, sNext, boD, truD, pg1, pg2, pg3, pg4, pg5, ps2, ps3, ps4, ps5, eqD_int, F__law_pick, B__law_pick, h1, hix]
theorem drawN {n : Nat} {p : Pen} {many : Nat} (h : PenOk n p) (hn : n ≤ 1000000000000) (hm : 0 < many) (hm2 : many < 2 ^ 200) : ∃ (r : Nat) (p' : Pen), F__law_draw [.pen, .int (many : Int)] p = .ok (.int (r : Int)) p' ∧ r < many ∧ PenOk (n + 1) p' := by
  obtain ⟨r, p', h1, h2, h3, h4⟩ := draw (many := (many : Int)) h hn (by omega) (by simpa using hm2)
  obtain ⟨k, rfl⟩ := Int.eq_ofNat_of_zero_le h2
  exact ⟨k, p', h1, by omega, h4⟩
end K09

namespace K09
open PySem PySem.Spec L2 Pd
theorem base_ok {b : Nat} (hb : 2 ≤ b ∧ b ≤ 4) : (0 : Int) < (b : Int) ∧ (b : Int).natAbs.log2 < 9000 := by
  refine ⟨by omega, ?_⟩
  exact Nat.lt_trans (log_lt (k := 3) (by show b < 8; omega) (by decide)) (by decide)
theorem while_dig {b : Nat} (hb : 2 ≤ b ∧ b ≤ 4) (p : Pen) : ∀ (n : Nat) (xs : List D), xs.length + (digs b n).length ≤ 1000 →
    sWhile (tmB (eBin gtD (eVar 0) (eC (.int 0)))) (sSeq (sAppend 2 (eBin modD (eVar 0) (eLook 1))) (sAsg (eBin divD (eVar 0) (eLook 1)) (gN 0))) [some (.v (.int (n : Int))), some (.v (.int (b : Int))), some (.own xs)] p =
      .nx [some (.v (.int 0)), some (.v (.int (b : Int))), some (.own (xs ++ (nInts (digs b n)).reverse))] p := by
  intro n
  induction n using Nat.strongRecOn with
  | _ n ih =>
    intro xs hl
    rw [sWhile_eq]
    by_cases hn : 0 < n
    · have hn' : (0 : Int) < (n : Int) := by omega
      have hd := digs_pos hb.1 hn
      rw [hd, List.length_append, List.length_singleton] at hl
      have hbo := base_ok hb
      have hb0 : 0 < b := by omega
      have e1 : tmB (eBin gtD (eVar 0) (eC (.int 0))) [some (.v (.int (n : Int))), some (.v (.int (b : Int))), some (.own xs)] p = .ok true [some (.v (.int (n : Int))), some (.v (.int (b : Int))), some (.own xs)] p := by
        simp [mkF, sRet, sExpr, sIf, sAsg, gN, toS, Res.bind, aCons, aNil, eVar, eLook, eC, eBin, eUn, optR, eCall, tmB, tmE, tmAnd, tmOr, tmNot, eAnd, eOr, eNot, addD, subD, mulD3, mulD, divD, modD, powD, ltD, leD, gtD, geD, intOp, intD, lenD, sNext, boD, truD, eqD_int, hn]
      have hsm : xs.length ≤ 10000000 := by omega
      have e2 : sAppend 2 (eBin modD (eVar 0) (eLook 1)) [some (.v (.int (n : Int))), some (.v (.int (b : Int))), some (.own xs)] p = .nx [some (.v (.int (n : Int))), some (.v (.int (b : Int))), some (.own (xs ++ [.int ((n % b : Nat) : Int)]))] p := by
        simp [mkF, sRet, sExpr, sIf, sAsg, gN, toS, Res.bind, aCons, aNil, eVar, eLook, eC, eBin, eUn, optR, eCall, tmB, tmE, tmAnd, tmOr, tmNot, eAnd, eOr, eNot, addD, subD, mulD3, mulD, divD, modD, powD, ltD, leD, gtD, geD, intOp, intD, lenD, sNext, boD, truD, eqD_int, sAppend, hb0, hsm]
      have e3 : sAsg (eBin divD (eVar 0) (eLook 1)) (gN 0) [some (.v (.int (n : Int))), some (.v (.int (b : Int))), some (.own (xs ++ [.int ((n % b : Nat) : Int)]))] p = .nx [some (.v (.int ((n / b : Nat) : Int))), some (.v (.int (b : Int))), some (.own (xs ++ [.int ((n % b : Nat) : Int)]))] p := by
        have h2 := hbo.2
        simp only [Int.natAbs_natCast] at h2
        simp [mkF, sRet, sExpr, sIf, sAsg, gN, toS, Res.bind, aCons, aNil, eVar, eLook, eC, eBin, eUn, optR, eCall, tmB, tmE, tmAnd, tmOr, tmNot, eAnd, eOr, eNot, addD, subD, mulD3, mulD, divD, modD, powD, ltD, leD, gtD, geD, intOp, intD, lenD, sNext, boD, truD, eqD_int, hb0, h2]
      rw [e1]
      dsimp only
      rw [sSeq_nx e2, e3]
      dsimp only
      rw [ih (n / b) (Nat.div_lt_self hn hb.1) _ (by rw [List.length_append, List.length_singleton]; omega), hd]
      simp [mkF, sRet, sExpr, sIf, sAsg, gN, toS, Res.bind, aCons, aNil, eVar, eLook, eC, eBin, eUn, optR, eCall, tmB, tmE, tmAnd, tmOr, tmNot, eAnd, eOr, eNot, addD, subD, mulD3, mulD, divD, modD, powD, ltD, leD, gtD, geD, intOp, intD, lenD, sNext, boD, truD, eqD_int]
    · have z : n = 0 := by omega
      subst z
      have e1 : tmB (eBin gtD (eVar 0) (eC (.int 0))) [some (.v (.int ((0 : Nat) : Int))), some (.v (.int (b : Int))), some (.own xs)] p = .ok false [some (.v (.int ((0 : Nat) : Int))), some (.v (.int (b : Int))), some (.own xs)] p := by
        simp [mkF, sRet, sExpr, sIf, sAsg, gN, toS, Res.bind, aCons, aNil, eVar, eLook, eC, eBin, eUn, optR, eCall, tmB, tmE, tmAnd, tmOr, tmNot, eAnd, eOr, eNot, addD, subD, mulD3, mulD, divD, modD, powD, ltD, leD, gtD, geD, intOp, intD, lenD, sNext, boD, truD, eqD_int]
      rw [e1, digs_zero]
      simp [mkF, sRet, sExpr, sIf, sAsg, gN, toS, Res.bind, aCons, aNil, eVar, eLook, eC, eBin, eUn, optR, eCall, tmB, tmE, tmAnd, tmOr, tmNot, eAnd, eOr, eNot, addD, subD, mulD3, mulD, divD, modD, powD, ltD, leD, gtD, geD, intOp, intD, lenD, sNext, boD, truD, eqD_int]
theorem digits_by {b n : Nat} (hb : 2 ≤ b ∧ b ≤ 4) (hn : n < 2 ^ 200) (p : Pen) : F_digits_by [.int (n : Int), .int (b : Int)] p = .ok (.tup (nInts (digs b n))) p := by
  have hl := digs_len hb.1 200 n hn
  have e1 : sOwn (fLst aNil) 2 [some (.v (.int (n : Int))), some (.v (.int (b : Int))), none] p = .nx [some (.v (.int (n : Int))), some (.v (.int (b : Int))), some (.own [])] p := by
    simp [mkF, sRet, sExpr, sIf, sAsg, gN, toS, Res.bind, aCons, aNil, eVar, eLook, eC, eBin, eUn, optR, eCall, tmB, tmE, tmAnd, tmOr, tmNot, eAnd, eOr, eNot, addD, subD, mulD3, mulD, divD, modD, powD, ltD, leD, gtD, geD, intOp, intD, lenD, sNext, boD, truD, eqD_int, sOwn, fLst]
  have e2 := while_dig hb p n [] (by simpa using Nat.le_trans hl (by decide))
  unfold F_digits_by B_digits_by
  show (match sSeq _ _ [some (.v (.int (n : Int))), some (.v (.int (b : Int))), none] p with | .nx _ p' => FR.ok .non p' | .rt d _ p' => .ok d p' | .exc x _ p' => .exc x p' | _ => .bad) = _
  rw [sSeq_nx e1, sSeq_nx e2]
  simp [mkF, sRet, sExpr, sIf, sAsg, gN, toS, Res.bind, aCons, aNil, eVar, eLook, eC, eBin, eUn, optR, eCall, tmB, tmE, tmAnd, tmOr, tmNot, eAnd, eOr, eNot, addD, subD, mulD3, mulD, divD, modD, powD, ltD, leD, gtD, geD, intOp, intD, lenD, sNext, boD, truD, eqD_int, fRev, eF, tupleD]
theorem while_ldig {b : Nat} (hb : 2 ≤ b ∧ b ≤ 4) (p : Pen) : ∀ (n : Nat) (xs : List D), xs.length + (digs b n).length ≤ 1000 →
    sWhile (tmB (eBin gtD (eVar 0) (eC (.int 0)))) (sPar (eBin addD (eF (fLst (aCons (eBin modD (eVar 0) (eLook 1)) (aNil)))) (eLook 2)) (eBin divD (eVar 0) (eLook 1)) 2 0) [some (.v (.int (n : Int))), some (.v (.int (b : Int))), some (.v (.lst xs))] p =
      .nx [some (.v (.int 0)), some (.v (.int (b : Int))), some (.v (.lst (nInts (digs b n) ++ xs)))] p := by
  intro n
  induction n using Nat.strongRecOn with
  | _ n ih =>
    intro xs hl
    rw [sWhile_eq]
    by_cases hn : 0 < n
    · have hd := digs_pos hb.1 hn
      rw [hd, List.length_append, List.length_singleton] at hl
      have hbo := base_ok hb
      have hb0 : 0 < b := by omega
      have e1 : tmB (eBin gtD (eVar 0) (eC (.int 0))) [some (.v (.int (n : Int))), some (.v (.int (b : Int))), some (.v (.lst xs))] p = .ok true [some (.v (.int (n : Int))), some (.v (.int (b : Int))), some (.v (.lst xs))] p := by
        simp [mkF, sRet, sExpr, sIf, sAsg, gN, toS, Res.bind, aCons, aNil, eVar, eLook, eC, eBin, eUn, optR, eCall, tmB, tmE, tmAnd, tmOr, tmNot, eAnd, eOr, eNot, addD, subD, mulD3, mulD, divD, modD, powD, ltD, leD, gtD, geD, intOp, intD, lenD, sNext, boD, truD, eqD_int, hn]
      have hsm : 1 + xs.length ≤ 10000000 := by omega
      have e2 : sPar (eBin addD (eF (fLst (aCons (eBin modD (eVar 0) (eLook 1)) (aNil)))) (eLook 2)) (eBin divD (eVar 0) (eLook 1)) 2 0 [some (.v (.int (n : Int))), some (.v (.int (b : Int))), some (.v (.lst xs))] p = .nx [some (.v (.int ((n / b : Nat) : Int))), some (.v (.int (b : Int))), some (.v (.lst (.int ((n % b : Nat) : Int) :: xs)))] p := by
        have h2 := hbo.2
        simp only [Int.natAbs_natCast] at h2
        have hsm2 : xs.length ≤ 9999999 := by omega
        simp [mkF, sRet, sExpr, sIf, sAsg, gN, toS, Res.bind, aCons, aNil, eVar, eLook, eC, eBin, eUn, optR, eCall, tmB, tmE, tmAnd, tmOr, tmNot, eAnd, eOr, eNot, addD, subD, mulD3, mulD, divD, modD, powD, ltD, leD, gtD, geD, intOp, intD, lenD, sNext, boD, truD, eqD_int, sPar, eF, fLst, hb0, h2, Nat.add_comm 1, hsm2]
      rw [e1]
      dsimp only
      rw [e2]
      dsimp only
      rw [ih (n / b) (Nat.div_lt_self hn hb.1) _ (by rw [List.length_cons]; omega), hd]
      simp [mkF, sRet, sExpr, sIf, sAsg, gN, toS, Res.bind, aCons, aNil, eVar, eLook, eC, eBin, eUn, optR, eCall, tmB, tmE, tmAnd, tmOr, tmNot, eAnd, eOr, eNot, addD, subD, mulD3, mulD, divD, modD, powD, ltD, leD, gtD, geD, intOp, intD, lenD, sNext, boD, truD, eqD_int]
    · have z : n = 0 := by omega
      subst z
      have e1 : tmB (eBin gtD (eVar 0) (eC (.int 0))) [some (.v (.int ((0 : Nat) : Int))), some (.v (.int (b : Int))), some (.v (.lst xs))] p = .ok false [some (.v (.int ((0 : Nat) : Int))), some (.v (.int (b : Int))), some (.v (.lst xs))] p := by
        simp [mkF, sRet, sExpr, sIf, sAsg, gN, toS, Res.bind, aCons, aNil, eVar, eLook, eC, eBin, eUn, optR, eCall, tmB, tmE, tmAnd, tmOr, tmNot, eAnd, eOr, eNot, addD, subD, mulD3, mulD, divD, modD, powD, ltD, leD, gtD, geD, intOp, intD, lenD, sNext, boD, truD, eqD_int]
      rw [e1, digs_zero]
      simp [mkF, sRet, sExpr, sIf, sAsg, gN, toS, Res.bind, aCons, aNil, eVar, eLook, eC, eBin, eUn, optR, eCall, tmB, tmE, tmAnd, tmOr, tmNot, eAnd, eOr, eNot, addD, subD, mulD3, mulD, divD, modD, powD, ltD, leD, gtD, geD, intOp, intD, lenD, sNext, boD, truD, eqD_int]
theorem law_digits {b n : Nat} (hb : 2 ≤ b ∧ b ≤ 4) (hn : n < 2 ^ 200) (p : Pen) : F__law_digits [.int (n : Int), .int (b : Int)] p = .ok (.lst (nInts (digs b n))) p := by
  have hl := digs_len hb.1 200 n hn
  have e1 : sAsg (eF (fLst aNil)) (gN 2) [some (.v (.int (n : Int))), some (.v (.int (b : Int))), none] p = .nx [some (.v (.int (n : Int))), some (.v (.int (b : Int))), some (.v (.lst []))] p := by
    simp [mkF, sRet, sExpr, sIf, sAsg, gN, toS, Res.bind, aCons, aNil, eVar, eLook, eC, eBin, eUn, optR, eCall, tmB, tmE, tmAnd, tmOr, tmNot, eAnd, eOr, eNot, addD, subD, mulD3, mulD, divD, modD, powD, ltD, leD, gtD, geD, intOp, intD, lenD, sNext, boD, truD, eqD_int, eF, fLst]
  have e2 := while_ldig hb p n [] (by simpa using Nat.le_trans hl (by decide))
  unfold F__law_digits B__law_digits
  show (match sSeq _ _ [some (.v (.int (n : Int))), some (.v (.int (b : Int))), none] p with | .nx _ p' => FR.ok .non p' | .rt d _ p' => .ok d p' | .exc x _ p' => .exc x p' | _ => .bad) = _
  rw [sSeq_nx e1, sSeq_nx e2]
  simp [mkF, sRet, sExpr, sIf, sAsg, gN, toS, Res.bind, aCons, aNil, eVar, eLook, eC, eBin, eUn, optR, eCall, tmB, tmE, tmAnd, tmOr, tmNot, eAnd, eOr, eNot, addD, subD, mulD3, mulD, divD, modD, powD, ltD, leD, gtD, geD, intOp, intD, lenD, sNext, boD, truD, eqD_int]
theorem need_base_ok {b : Nat} (hb : 2 ≤ b ∧ b ≤ 4) (p : Pen) : F_need_base [.int (b : Int)] p = .ok .non p := by
  obtain rfl | rfl | rfl : b = 2 ∨ b = 3 ∨ b = 4 := by omega
  all_goals kernel_rfl
theorem is_count_ok {n : Nat} {m : Int} (h : (n : Int) ≤ m) (p : Pen) : F_is_count [.int (n : Int), .int m] p = .ok (.bl true) p := by
  have h1 : isiD "int" (.int (n : Int)) = some (.bl true) := by kernel_rfl
  have h2 : isiD "bool" (.int (n : Int)) = some (.bl false) := by kernel_rfl
  have hi : F_is_integer [.int (n : Int)] p = .ok (.bl true) p := by
    simp [mkF, sRet, sExpr, sIf, sAsg, gN, toS, Res.bind, aCons, aNil, eVar, eLook, eC, eBin, eUn, optR, eCall, tmB, tmE, tmAnd, tmOr, tmNot, eAnd, eOr, eNot, addD, subD, mulD3, mulD, divD, modD, powD, ltD, leD, gtD, geD, intOp, intD, lenD, sNext, boD, truD, eqD_int, F_is_integer, B_is_integer, h1, h2]
  simp [mkF, sRet, sExpr, sIf, sAsg, gN, toS, Res.bind, aCons, aNil, eVar, eLook, eC, eBin, eUn, optR, eCall, tmB, tmE, tmAnd, tmOr, tmNot, eAnd, eOr, eNot, addD, subD, mulD3, mulD, divD, modD, powD, ltD, leD, gtD, geD, intOp, intD, lenD, sNext, boD, truD, eqD_int, F_is_count, B_is_count, hi, eIsN, isN, h]
theorem is_count_n (n : Nat) (p : Pen) : F_is_count [.int (n : Int), .non] p = .ok (.bl true) p := by
  have h1 : isiD "int" (.int (n : Int)) = some (.bl true) := by kernel_rfl
  have h2 : isiD "bool" (.int (n : Int)) = some (.bl false) := by kernel_rfl
  have hi : F_is_integer [.int (n : Int)] p = .ok (.bl true) p := by
    simp [mkF, sRet, sExpr, sIf, sAsg, gN, toS, Res.bind, aCons, aNil, eVar, eLook, eC, eBin, eUn, optR, eCall, tmB, tmE, tmAnd, tmOr, tmNot, eAnd, eOr, eNot, addD, subD, mulD3, mulD, divD, modD, powD, ltD, leD, gtD, geD, intOp, intD, lenD, sNext, boD, truD, eqD_int, F_is_integer, B_is_integer, h1, h2]
  simp [mkF, sRet, sExpr, sIf, sAsg, gN, toS, Res.bind, aCons, aNil, eVar, eLook, eC, eBin, eUn, optR, eCall, tmB, tmE, tmAnd, tmOr, tmNot, eAnd, eOr, eNot, addD, subD, mulD3, mulD, divD, modD, powD, ltD, leD, gtD, geD, intOp, intD, lenD, sNext, boD, truD, eqD_int, F_is_count, B_is_count, hi, eIsN, isN]
inductive RowD (ds : List Nat) : D → Prop
  | lst : RowD ds (.lst (nInts ds))
  | tup : RowD ds (.tup (nInts ds))
theorem RowD.any {ds : List Nat} {d : D} (h : RowD ds d) {f : EM} {e e' : Ev} {p p' : Pen} (hf : f e p = .ok d e' p') : iAny f e p = .ok (nInts ds) e' p' := by
  unfold iAny
  rw [hf]
  cases h <;> rfl
theorem forNum {b : Nat} (hb : 2 ≤ b ∧ b ≤ 4) {i j : Nat} {x0 : Option Sl} (p : Pen) : ∀ (ds : List Nat) (f k : Nat) (x3 : Option Sl), f < b ^ k → k + ds.length ≤ 1000 → (∀ d ∈ ds, d < b) →
    ∃ x3', forGo (gN 3) (sAsg (eBin addD (eBin mulD3 (eVar 2) (eLook 1)) (eLook 3)) (gN 2)) (nInts ds) [x0, some (.v (.int (b : Int))), some (.v (.int (f : Int))), x3] p =
      .nx [x0, some (.v (.int (b : Int))), some (.v (.int ((numF b f ds : Nat) : Int))), x3'] p
  | [], f, k, x3, _, _, _ => ⟨x3, rfl⟩
  | d :: ds, f, k, x3, hf, hk, hd => by
    rw [List.length_cons] at hk
    have h1 := hd d (by simp [mkF, sRet, sExpr, sIf, sAsg, gN, toS, Res.bind, aCons, aNil, eVar, eLook, eC, eBin, eUn, optR, eCall, tmB, tmE, tmAnd, tmOr, tmNot, eAnd, eOr, eNot, addD, subD, mulD3, mulD, divD, modD, powD, ltD, leD, gtD, geD, intOp, intD, lenD, sNext, boD, truD, eqD_int])
    have h2 : f * b + d < b ^ (k + 1) := by
      rw [Nat.pow_succ]
      have : (f + 1) * b ≤ b ^ k * b := Nat.mul_le_mul_right b hf
      rw [Nat.add_mul, Nat.one_mul] at this
      omega
    have hl1 : f.log2 < 5000 := by
      refine log_ltN ?_ (by decide)
      calc f < b ^ k := hf
        _ ≤ 4 ^ k := Nat.pow_le_pow_left hb.2 k
        _ = 2 ^ (2 * k) := by rw [Nat.pow_mul]
        _ ≤ 2 ^ 5000 := Nat.pow_le_pow_right (by decide) (by omega)
    have hl2 : b.log2 < 3 := log_ltN (by show b < 8; omega) (by decide)
    have hl3 : f.log2 + b.log2 < 1000000 := by omega
    obtain ⟨x3', ih⟩ := forNum hb (i := i) (j := j) (x0 := x0) p ds (f * b + d) (k + 1) (some (.v (.int (d : Int)))) h2 (by omega) fun x hx => hd x (by simp [mkF, sRet, sExpr, sIf, sAsg, gN, toS, Res.bind, aCons, aNil, eVar, eLook, eC, eBin, eUn, optR, eCall, tmB, tmE, tmAnd, tmOr, tmNot, eAnd, eOr, eNot, addD, subD, mulD3, mulD, divD, modD, powD, ltD, leD, gtD, geD, intOp, intD, lenD, sNext, boD, truD, eqD_int, hx])
    refine ⟨x3', ?_⟩
    have s1 : sAsg (eBin addD (eBin mulD3 (eVar 2) (eLook 1)) (eLook 3)) (gN 2) [x0, some (.v (.int (b : Int))), some (.v (.int (f : Int))), some (.v (.int (d : Int)))] p = .nx [x0, some (.v (.int (b : Int))), some (.v (.int ((f * b + d : Nat) : Int))), some (.v (.int (d : Int)))] p := by
      simp [mkF, sRet, sExpr, sIf, sAsg, gN, toS, Res.bind, aCons, aNil, eVar, eLook, eC, eBin, eUn, optR, eCall, tmB, tmE, tmAnd, tmOr, tmNot, eAnd, eOr, eNot, addD, subD, mulD3, mulD, divD, modD, powD, ltD, leD, gtD, geD, intOp, intD, lenD, sNext, boD, truD, eqD_int, hl3]
    exact (forGo_nx rfl s1).trans ih
theorem number_by_n {b : Nat} (hb : 2 ≤ b ∧ b ≤ 4) {ds : List Nat} {d : D} (r : RowD ds d) (hl : ds.length ≤ 400) (hd : ∀ d ∈ ds, d < b) (p : Pen) : F_number_by [d, .int (b : Int)] p = .ok (.int ((numB b ds : Nat) : Int)) p := by
  obtain ⟨x3', h⟩ := forNum hb (i := 0) (j := 0) (x0 := some (.v d)) p ds 0 0 none (by simp [mkF, sRet, sExpr, sIf, sAsg, gN, toS, Res.bind, aCons, aNil, eVar, eLook, eC, eBin, eUn, optR, eCall, tmB, tmE, tmAnd, tmOr, tmNot, eAnd, eOr, eNot, addD, subD, mulD3, mulD, divD, modD, powD, ltD, leD, gtD, geD, intOp, intD, lenD, sNext, boD, truD, eqD_int]) (by omega) hd
  unfold F_number_by B_number_by
  refine mkF_rt (e' := [some (.v d), some (.v (.int (b : Int))), some (.v (.int ((numB b ds : Nat) : Int))), x3']) [some (.v d), some (.v (.int (b : Int))), none, none] rfl ?_
  have s1 : sAsg (eC (.int 0)) (gN 2) [some (.v d), some (.v (.int (b : Int))), none, none] p = .nx [some (.v d), some (.v (.int (b : Int))), some (.v (.int 0)), none] p := rfl
  have s2 : sFor (iAny (eVar 0)) (gN 3) (sAsg (eBin addD (eBin mulD3 (eVar 2) (eLook 1)) (eLook 3)) (gN 2)) [some (.v d), some (.v (.int (b : Int))), some (.v (.int 0)), none] p = .nx [some (.v d), some (.v (.int (b : Int))), some (.v (.int ((numB b ds : Nat) : Int))), x3'] p := by
    have q := r.any (f := eVar 0) (e := [some (.v d), some (.v (.int (b : Int))), some (.v (.int 0)), none]) (p := p) rfl
    unfold sFor
    rw [q]
    exact h
  rw [sSeq_nx s1, sSeq_nx s2]
  rfl
end K09

namespace K09
open PySem PySem.Spec L2 Pd
def pad (b : Nat) : Nat → Nat → List Nat
  | 0, _ => []
  | m + 1, c => pad b m (c / b) ++ [c % b]
theorem pad_len (b : Nat) : ∀ m c, (pad b m c).length = m
  | 0, _ => rfl
  | m + 1, c => by rw [pad, List.length_append, pad_len b m]; rfl
theorem pad_lt {b : Nat} (hb : 2 ≤ b) : ∀ m c, ∀ d ∈ pad b m c, d < b
  | 0, _, _, h => nomatch h
  | m + 1, c, d, h => by
    rw [pad] at h
    rcases List.mem_append.mp h with h | h
    · exact pad_lt hb m _ d h
    · rw [List.mem_singleton.mp h]
      exact Nat.mod_lt _ (by omega)
theorem pad_digs {b : Nat} (hb : 2 ≤ b) : ∀ m c, c < b ^ m → (digs b c).length ≤ m ∧ pad b m c = List.replicate (m - (digs b c).length) 0 ++ digs b c
  | 0, c, h => by
    have : c = 0 := by simpa using h
    rw [this, digs_zero]
    exact ⟨Nat.le_refl _, rfl⟩
  | m + 1, c, h => by
    have hq : c / b < b ^ m := by rw [Nat.div_lt_iff_lt_mul (by omega)]; rw [Nat.pow_succ] at h; exact h
    obtain ⟨h1, h2⟩ := pad_digs hb m (c / b) hq
    by_cases z : 0 < c
    · rw [digs_pos hb z, List.length_append, List.length_singleton, pad, h2]
      refine ⟨by omega, ?_⟩
      rw [show m + 1 - ((digs b (c / b)).length + 1) = m - (digs b (c / b)).length by omega, List.append_assoc]
    · have z0 : c = 0 := by omega
      subst z0
      rw [Nat.zero_div, digs_zero] at h2
      rw [digs_zero, pad, Nat.zero_div, h2]
      refine ⟨Nat.zero_le _, ?_⟩
      rw [List.append_nil, List.append_nil, Nat.zero_mod]
      show List.replicate (m - 0) 0 ++ [0] = List.replicate (m + 1 - 0) 0
      rw [Nat.sub_zero, Nat.sub_zero, List.replicate_succ']
theorem num_pad {b m c : Nat} (hb : 2 ≤ b) (h : c < b ^ m) : numB b (pad b m c) = c := by
  rw [(pad_digs hb m c h).2, numB_zeros, numB_digs hb]
theorem pad_num {b : Nat} (hb : 2 ≤ b) : ∀ m (ds : List Nat), ds.length = m → (∀ d ∈ ds, d < b) → pad b m (numB b ds) = ds
  | 0, ds, h, _ => by rw [List.eq_nil_of_length_eq_zero h]; rfl
  | m + 1, ds, h, hd => by
    obtain ⟨xs, x, rfl⟩ : ∃ xs x, ds = xs ++ [x] := by
      refine ⟨ds.dropLast, ds.getLast (fun e => by rw [e] at h; cases h), ?_⟩
      exact (List.dropLast_concat_getLast _).symm
    rw [List.length_append, List.length_singleton] at h
    have hx := hd x (by simp)
    have e : numB b (xs ++ [x]) = numB b xs * b + x := by rw [numB, numF_append]; rfl
    have e1 : (numB b xs * b + x) / b = numB b xs := by
      rw [Nat.mul_comm, Nat.mul_add_div (by omega), Nat.div_eq_of_lt hx, Nat.add_zero]
    have e2 : (numB b xs * b + x) % b = x := by
      rw [Nat.mul_comm, Nat.mul_add_mod, Nat.mod_eq_of_lt hx]
    rw [e, pad, e1, e2, pad_num hb m xs (by omega) fun d q => hd d (by simp [q])]
def col (rows : List (List Nat)) (at_ : Nat) : List Nat := rows.map fun r => r.getD at_ 0
theorem col_len (rows : List (List Nat)) (k : Nat) : (col rows k).length = rows.length := List.length_map ..
theorem num_pos {b : Nat} (hb : 2 ≤ b) : ∀ (ds : List Nat) (f : Nat), (0 < f ∨ ∃ d ∈ ds, 0 < d) → 0 < numF b f ds
  | [], f, h => by
    rcases h with h | ⟨d, h, _⟩
    · exact h
    · cases h
  | d :: ds, f, h => by
    refine num_pos hb ds (f * b + d) ?_
    rcases h with h | ⟨x, h, hx⟩
    · left
      have : 0 < f * b := Nat.mul_pos h (by omega)
      omega
    · rcases List.mem_cons.mp h with rfl | h
      · left; omega
      · exact .inr ⟨x, h, hx⟩
theorem ints_n : ∀ l : List Nat, ints? (nInts l) = some (l.map fun (n : Nat) => (n : Int))
  | [] => rfl
  | n :: l => by
    show (ints? (nInts l)).map _ = _
    rw [ints_n l]
    rfl
theorem maxL_some : ∀ (l : List Int), l ≠ [] → ∃ m, maxL l = some m
  | [], h => absurd rfl h
  | x :: r, _ => by
    unfold maxL
    cases maxL r with
    | none => exact ⟨_, rfl⟩
    | some y =>
      dsimp only
      split
      · exact ⟨_, rfl⟩
      · exact ⟨_, rfl⟩
theorem max_n (l : List Nat) : ∃ M : Nat, maxD (.lst (nInts (0 :: l))) = some (.int (M : Int)) ∧ M ∈ 0 :: l ∧ ∀ y ∈ l, y ≤ M := by
  obtain ⟨m, hm⟩ := maxL_some ((0 :: l).map fun (n : Nat) => (n : Int)) (by simp)
  obtain ⟨h1, h2⟩ := maxL_is hm
  obtain ⟨M, hM, rfl⟩ := List.mem_map.mp h1
  refine ⟨M, ?_, hM, fun y hy => ?_⟩
  · show ((ints? (nInts (0 :: l))).bind maxL).map D.int = _
    rw [ints_n]
    show (maxL _).map D.int = _
    rw [hm]
    rfl
  · have := h2 (y : Int) (List.mem_map.mpr ⟨y, by simp [hy], rfl⟩)
    omega
end K09

namespace K09
open PySem PySem.Spec L2 Pd
theorem zeros_l (k : Nat) : (List.replicate k [D.int 0]).flatten = nInts (List.replicate k 0) := by
  induction k with
  | zero => rfl
  | succ k ih => rw [List.replicate_succ, List.flatten_cons, ih, List.replicate_succ]; rfl
theorem mulL {k l : Nat} (h : l ≤ k) (hk : k ≤ 1000) : mulD3 (.lst [.int 0]) (.int ((k : Int) - (l : Int))) = some (.lst (nInts (List.replicate (k - l) 0))) := by
  have e : ((k : Int) - (l : Int)) = ((k - l : Nat) : Int) := by omega
  rw [e]
  show (if 0 ≤ ((k - l : Nat) : Int) ∧ ((k - l : Nat) : Int) ≤ 10000000 ∧ small ([D.int 0].length * ((k - l : Nat) : Int).toNat) then some (D.lst (List.replicate ((k - l : Nat) : Int).toNat [D.int 0]).flatten) else none) = _
  rw [if_pos (by
    refine ⟨by omega, by omega, ?_⟩
    show 1 * ((k - l : Nat) : Int).toNat ≤ _
    omega), Int.toNat_natCast, zeros_l]
theorem mulT {k l : Nat} (h : l ≤ k) (hk : k ≤ 1000) : mulD3 (.tup [.int 0]) (.int ((k : Int) - (l : Int))) = some (.tup (nInts (List.replicate (k - l) 0))) := by
  have e : ((k : Int) - (l : Int)) = ((k - l : Nat) : Int) := by omega
  rw [e]
  show (if [D.int 0] ≠ [] ∧ -1000 ≤ ((k - l : Nat) : Int) ∧ ((k - l : Nat) : Int) ≤ 1000 ∧ [D.int 0].length ≤ 1000 then some (D.tup (List.replicate ((k - l : Nat) : Int).toNat [D.int 0]).flatten) else none) = _
  rw [if_pos (by
    refine ⟨by simp [mkF, sRet, sExpr, sIf, sAsg, gN, toS, Res.bind, aCons, aNil, eVar, eLook, eC, eBin, eUn, optR, eCall, tmB, tmE, tmAnd, tmOr, tmNot, eAnd, eOr, eNot, sNext, boD, truD, o_add, o_sub, o_lt, o_le, o_gt, o_ge, o_ne, o_eq, o_lenT, o_lenL], by omega, by omega, ?_⟩
    show 1 ≤ 1000
    decide), Int.toNat_natCast, zeros_l]
theorem addL (x y : List Nat) (h : x.length + y.length ≤ 10000000) : addD (.lst (nInts x)) (.lst (nInts y)) = some (.lst (nInts (x ++ y))) := by
  show (if small _ then _ else _) = _
  rw [if_pos (by show (nInts x).length + (nInts y).length ≤ _; rw [List.length_map, List.length_map]; exact h)]
  exact congrArg (fun l => some (D.lst l)) List.map_append.symm
theorem addT (x y : List Nat) (h : x.length + y.length ≤ 10000000) : addD (.tup (nInts x)) (.tup (nInts y)) = some (.tup (nInts (x ++ y))) := by
  show (if small _ then _ else _) = _
  rw [if_pos (by show (nInts x).length + (nInts y).length ≤ _; rw [List.length_map, List.length_map]; exact h)]
  exact congrArg (fun l => some (D.tup l)) List.map_append.symm
theorem ixT {l : List Nat} {k : Nat} (h : k < l.length) : ixD (.tup (nInts l)) (rgI k) = some (.int ((l.getD k 0 : Nat) : Int)) := by
  have e : (0 : Int) + (k : Int) = (k : Int) := by omega
  unfold rgI
  rw [e]
  exact nx (by rw [List.getD_eq_getElem?_getD, List.getElem?_eq_getElem h]; rfl)
theorem ixL {l : List Nat} {k : Nat} (h : k < l.length) : ixD (.lst (nInts l)) (rgI k) = some (.int ((l.getD k 0 : Nat) : Int)) := by
  have e : (0 : Int) + (k : Int) = (k : Int) := by omega
  unfold rgI
  rw [e]
  refine ixD_lst (by omega) ?_
  rw [Int.toNat_natCast, List.getElem?_map, List.getD_eq_getElem?_getD, List.getElem?_eq_getElem h]
  rfl
structure Nums (b : Nat) (ns : List Nat) (W : Nat) : Prop where
  hb : 2 ≤ b ∧ b ≤ 4
  len : ns.length ≤ 10
  lt : ∀ n ∈ ns, n < 2 ^ 130
  max : maxD (.lst (nInts (0 :: ns.map fun n => (digs b n).length))) = some (.int (W : Int))
  wid : ∀ n ∈ ns, (digs b n).length ≤ W
  at_ : W = 0 ∨ ∃ n ∈ ns, (digs b n).length = W
  small : W ≤ 130
theorem Nums.of {b : Nat} {ns : List Nat} (hb : 2 ≤ b ∧ b ≤ 4) (hl : ns.length ≤ 10) (hn : ∀ n ∈ ns, n < 2 ^ 130) : ∃ W, Nums b ns W := by
  obtain ⟨M, h1, h2, h3⟩ := max_n (ns.map fun n => (digs b n).length)
  refine ⟨M, hb, hl, hn, h1, fun n hx => h3 _ (List.mem_map.mpr ⟨n, hx, rfl⟩), ?_, ?_⟩
  · rcases List.mem_cons.mp h2 with h | h
    · exact .inl h
    · obtain ⟨n, hx, e⟩ := List.mem_map.mp h
      exact .inr ⟨n, hx, e⟩
  · rcases List.mem_cons.mp h2 with h | h
    · omega
    · obtain ⟨n, hx, e⟩ := List.mem_map.mp h
      have := digs_len hb.1 130 n (hn n hx)
      omega
section
variable {b W : Nat} {ns : List Nat}
theorem Nums.pad_ (h : Nums b ns W) {n : Nat} (hn : n ∈ ns) : List.replicate (W - (digs b n).length) 0 ++ digs b n = pad b W n ∧ n < b ^ W := by
  have h1 : n < b ^ W := by
    by_cases z : 0 < n
    · obtain ⟨d, ds, e, _, _, h4⟩ := digs_head h.hb.1 n z
      have h5 := h.wid n hn
      rw [e, List.length_cons] at h5
      exact Nat.lt_of_lt_of_le h4 (Nat.pow_le_pow_right (by have := h.hb; omega) h5)
    · have : n = 0 := by omega
      rw [this]
      exact Nat.pow_pos (by have := h.hb; omega)
  exact ⟨(pad_digs h.hb.1 W n h1).2.symm, h1⟩
def Nums.P (_ : Nums b ns W) : List (List Nat) := ns.map (pad b W)
theorem Nums.get (h : Nums b ns W) {k : Nat} (hk : k < W) {r : List Nat} (hr : r ∈ h.P) : k < r.length := by
  obtain ⟨n, _, rfl⟩ := List.mem_map.mp hr
  rw [pad_len]
  exact hk
theorem side_n (h : Nums b ns W) {d : D} (r : RowD ns d) (p : Pen) : F_read_side_by_side [d, .int (b : Int)] p = .ok (.tup (nInts ((List.range W).map fun k => numB b (col h.P k)))) p := by
  have hl := h.len
  have s1 : sOwn (fComp [] (iAny (eVar 0)) [5] (gN 5) (tmYes) (eCall F_digits_by (aCons (eVar 5) (aCons (eVar 1) (aNil))) [])) 2 [some (.v d), some (.v (.int (b : Int))), none, none, none, none, none, none] p =
      .nx [some (.v d), some (.v (.int (b : Int))), some (.own (ns.map fun n => .tup (nInts (digs b n)))), none, none, none, none, none] p :=
    sOwn_ok (fComp_gen (fun (n : Nat) => D.int (n : Int)) (fun n => .tup (nInts (digs b n))) (r.any (eVar_v rfl)) (by omega) fun n hn => ⟨_, rfl, _, rfl, _, eCall_ok (aCons_ok (eVar_v rfl) (aCons_ok (eVar_v rfl) aNil_ok)) (digits_by h.hb (Nat.lt_trans (h.lt n hn) (by decide)) p)⟩)
  have s2 : sAsg (eUn maxD (eBin addD (eF (fLst (aCons (eC (.int 0)) (aNil)))) (eF (fComp [] (iAny (eVar 2)) [6] (gN 6) (tmYes) (eUn lenD (eLook 6)))))) (gN 3) [some (.v d), some (.v (.int (b : Int))), some (.own (ns.map fun n => .tup (nInts (digs b n)))), none, none, none, none, none] p =
      .nx [some (.v d), some (.v (.int (b : Int))), some (.v (.lst (ns.map fun n => .tup (nInts (digs b n))))), some (.v (.int (W : Int))), none, none, none, none] p := by
    have q : fComp [] (iAny (eVar 2)) [6] (gN 6) (tmYes) (eUn lenD (eLook 6)) [some (.v d), some (.v (.int (b : Int))), some (.own (ns.map fun n => .tup (nInts (digs b n)))), none, none, none, none, none] p =
        .ok (ns.map fun n => D.int (((digs b n).length : Nat) : Int)) [some (.v d), some (.v (.int (b : Int))), some (.v (.lst (ns.map fun n => .tup (nInts (digs b n))))), none, none, none, none, none] p :=
      fComp_gen (fun (n : Nat) => D.tup (nInts (digs b n))) (fun n => D.int (((digs b n).length : Nat) : Int)) (iAny_l (eVar_o rfl)) (by omega) fun n hn => ⟨_, rfl, _, rfl, _, eUn_ok (eLook_v rfl) (by rw [o_lenT, List.length_map])⟩
    refine sAsg_ok (eUn_ok (eBin_ok (eF_ok (fLst_ok (aCons_ok eC_ok aNil_ok) (by decide))) (eF_ok q) ?_) h.max) rfl
    have e : (ns.map fun n => D.int (((digs b n).length : Nat) : Int)) = nInts (ns.map fun n => (digs b n).length) := by
      show _ = List.map _ (List.map _ ns)
      rw [List.map_map]
      rfl
    rw [e]
    exact addL [0] (ns.map fun n => (digs b n).length) (by rw [List.length_map]; show 1 + _ ≤ _; omega)
  have s3 : sOwn (fComp [] (iAny (eVar 2)) [6] (gN 6) (tmYes) (eBin addD (eBin mulD3 (eTup (aCons (eC (.int 0)) (aNil))) (eBin subD (eVar 3) (eUn lenD (eLook 6)))) (eLook 6))) 4 [some (.v d), some (.v (.int (b : Int))), some (.v (.lst (ns.map fun n => .tup (nInts (digs b n))))), some (.v (.int (W : Int))), none, none, none, none] p =
      .nx [some (.v d), some (.v (.int (b : Int))), some (.v (.lst (ns.map fun n => .tup (nInts (digs b n))))), some (.v (.int (W : Int))), some (.own (ns.map fun n => .tup (nInts (pad b W n)))), none, none, none] p :=
    sOwn_ok (fComp_gen (fun (n : Nat) => D.tup (nInts (digs b n))) (fun n => .tup (nInts (pad b W n))) (iAny_l (eVar_v rfl)) (by omega) fun n hn => ⟨_, rfl, _, rfl, _, eBin_ok (eBin_ok (eTup_ok (aCons_ok eC_ok aNil_ok) (by decide))
      (eBin_ok (eVar_v rfl) (eUn_ok (eLook_v rfl) (o_lenT _)) (o_sub _ _)) (by rw [List.length_map]; exact mulT (h.wid n hn) (by have := h.small; omega))) (eLook_v rfl) (by
        rw [addT _ _ (by rw [List.length_replicate]; have := h.small; have := h.wid n hn; omega), (h.pad_ hn).1])⟩)
  have s4 : eUn tupleD (eF (fComp [4] (iRange1 (aCons (eVar 3) (aNil))) [7] (gN 7) (tmYes) (eCall F_number_by (aCons (eF (fComp [] (iAny (eVar 4)) [6] (gN 6) (tmYes) (eBin ixD (eVar 6) (eLook 7)))) (aCons (eVar 1) (aNil))) []))) [some (.v d), some (.v (.int (b : Int))), some (.v (.lst (ns.map fun n => .tup (nInts (digs b n))))), some (.v (.int (W : Int))), some (.own (ns.map fun n => .tup (nInts (pad b W n)))), none, none, none] p =
      .ok (.tup (nInts ((List.range W).map fun k => numB b (col h.P k)))) [some (.v d), some (.v (.int (b : Int))), some (.v (.lst (ns.map fun n => .tup (nInts (digs b n))))), some (.v (.int (W : Int))), some (.v (.lst (ns.map fun n => .tup (nInts (pad b W n))))), none, none, none] p := by
    have e0 : nInts ((List.range W).map fun k => numB b (col h.P k)) = (List.range W).map fun k => D.int ((numB b (col h.P k) : Nat) : Int) := by
      show List.map _ (List.map _ _) = _
      rw [List.map_map]
      rfl
    rw [e0]
    refine tupF_ok (fComp_gen rgI (fun k => D.int ((numB b (col h.P k) : Nat) : Int)) (range_g W (by have := h.small; omega) (eVar_v rfl)) (by rw [List.length_range]; have := h.small; omega) fun k hk => ⟨_, rfl, _, rfl, ?_⟩)
    have hk := List.mem_range.mp hk
    have e : ns.map (fun n => D.int (((pad b W n).getD k 0 : Nat) : Int)) = nInts (col h.P k) := by
      show _ = List.map _ (List.map _ (List.map _ ns))
      rw [List.map_map, List.map_map]
      rfl
    have q := number_by_n h.hb (RowD.lst (ds := col h.P k)) (by rw [col_len]; show (List.map _ ns).length ≤ _; rw [List.length_map]; omega) (fun x hx => by
      obtain ⟨r, hr, rfl⟩ := List.mem_map.mp hx
      have hkr := h.get hk hr
      obtain ⟨n, _, rfl⟩ := List.mem_map.mp hr
      rw [List.getD_eq_getElem?_getD, List.getElem?_eq_getElem hkr]
      exact pad_lt h.hb.1 W n _ (List.getElem_mem hkr)) p
    rw [← e] at q
    exact ⟨_, eCall_ok (aCons_ok (eF_ok (fComp_gen (fun (n : Nat) => D.tup (nInts (pad b W n))) (fun n => D.int (((pad b W n).getD k 0 : Nat) : Int)) (iAny_l (eVar_v rfl)) (by omega) fun n hn => ⟨_, rfl, _, rfl, _, eBin_ok (eVar_v rfl) (eLook_v rfl) (ixT (by rw [pad_len]; exact hk))⟩)) (aCons_ok (eVar_v rfl) aNil_ok)) q⟩
  unfold F_read_side_by_side B_read_side_by_side
  refine mkF_rt (e' := [some (.v d), some (.v (.int (b : Int))), some (.v (.lst (ns.map fun n => .tup (nInts (digs b n))))), some (.v (.int (W : Int))), some (.v (.lst (ns.map fun n => .tup (nInts (pad b W n))))), none, none, none]) [some (.v d), some (.v (.int (b : Int))), none, none, none, none, none, none] rfl ?_
  rw [sSeq_nx s1, sSeq_nx s2, sSeq_nx s3]
  exact sRet_ok s4
end
theorem columns_of_n {b W : Nat} {ns : List Nat} (h : Nums b ns W) {d : D} (r : RowD ns d) (p : Pen) : F_columns_of [d, .int (b : Int)] p = .ok (.tup (nInts ((List.range W).map fun k => numB b (col h.P k)))) p := by
  have h1 : F_is_row [d] p = .ok (.bl true) p := by
    have : isiD2 "list" "tuple" d = some (.bl true) := by cases r <;> kernel_rfl
    simp [mkF, sRet, sExpr, sIf, sAsg, gN, toS, Res.bind, aCons, aNil, eVar, eLook, eC, eBin, eUn, optR, eCall, tmB, tmE, tmAnd, tmOr, tmNot, eAnd, eOr, eNot, sNext, boD, truD, o_add, o_sub, o_lt, o_le, o_gt, o_ge, o_ne, o_eq, o_lenT, o_lenL, F_is_row, B_is_row, this]
  have hl := h.len
  unfold F_columns_of B_columns_of
  refine mkF_rt (e' := [some (.v d), some (.v (.int (b : Int))), none]) [some (.v d), some (.v (.int (b : Int))), none] rfl ?_
  refine (sSeq_nx (sExpr_ok (eCall_ok (aCons_ok (eVar_v rfl) aNil_ok) (need_base_ok h.hb p)))).trans ?_
  refine (sSeq_nx (sIf_fn (tmOr_f (tmNot_ok (c := true) (tmE_ok (eCall_ok (aCons_ok (eVar_v rfl) aNil_ok) h1) rfl)) (tmNot_ok (c := true) (tmE_ok (all_comp (ds := nInts ns) (r.any (eVar_v rfl)) (by rw [List.length_map]; omega) fun x hx => ?_) rfl))))).trans ?_
  · obtain ⟨n, hn, rfl⟩ := List.mem_map.mp hx
    exact ⟨_, _, rfl, rfl, _, eCall_ok (aCons_ok (eVar_v rfl) aNil_ok) (is_count_n n p)⟩
  exact sRet_ok (eCall_ok (aCons_ok (eVar_v rfl) (aCons_ok (eVar_v rfl) aNil_ok)) (side_n h r p))
theorem listed_n {n : Nat} {p : Pen} (h : PenOk n p) (hn : n ≤ 100000000) {ds : List Nat} {d : D} (r : RowD ds d) : ∃ d' p', F__law_listed [.pen, d] p = .ok d' p' ∧ RowD ds d' ∧ PenOk (n + 1) p' := by
  obtain ⟨x, p1, a1, b1, c1⟩ := drawN (many := 2) h (by omega) (by decide) (by decide)
  have a1 : F__law_draw [.pen, .int 2] p = .ok (.int (x : Int)) p1 := a1
  by_cases z : x = 0
  · refine ⟨.lst (nInts ds), p1, ?_, .lst, c1⟩
    subst z
    cases r <;> simp [mkF, sRet, sExpr, sIf, sAsg, gN, toS, Res.bind, aCons, aNil, eVar, eLook, eC, eBin, eUn, optR, eCall, tmB, tmE, tmAnd, tmOr, tmNot, eAnd, eOr, eNot, sNext, boD, truD, o_add, o_sub, o_lt, o_le, o_gt, o_ge, o_ne, o_eq, o_lenT, o_lenL, F__law_listed, B__law_listed, eIf, a1, eF, fList]
  · refine ⟨.tup (nInts ds), p1, ?_, .tup, c1⟩
    have z' : ¬ ((x : Int) = 0) := by omega
    cases r <;> simp [mkF, sRet, sExpr, sIf, sAsg, gN, toS, Res.bind, aCons, aNil, eVar, eLook, eC, eBin, eUn, optR, eCall, tmB, tmE, tmAnd, tmOr, tmNot, eAnd, eOr, eNot, sNext, boD, truD, o_add, o_sub, o_lt, o_le, o_gt, o_ge, o_ne, o_eq, o_lenT, o_lenL, F__law_listed, B__law_listed, eIf, a1, z, tupleD]
end K09

namespace K09
open PySem PySem.Spec L2 Pd
abbrev I_ (n : Nat) : Option Sl := some (.v (.int (n : Int)))
abbrev vd (d : D) : Option Sl := some (.v d)
section
variable {b W : Nat} {ns : List Nat}
def colsN (h : Nums b ns W) : List Nat := (List.range W).map fun k => numB b (col h.P k)
abbrev rowsL (b : Nat) (ns : List Nat) : List D := ns.map fun n => .lst (nInts (digs b n))
theorem pad_get (h : Nums b ns W) {n k : Nat} (hn : n ∈ ns) (hk : k < W) : (pad b W n).getD k 0 = if W - (digs b n).length ≤ k then (digs b n).getD (k - (W - (digs b n).length)) 0 else 0 := by
  rw [← (h.pad_ hn).1]
  have hw := h.wid n hn
  by_cases z : W - (digs b n).length ≤ k
  · rw [if_pos z, List.getD_eq_getElem?_getD, List.getD_eq_getElem?_getD, List.getElem?_append_right (by rw [List.length_replicate]; exact z), List.length_replicate]
  · rw [if_neg z, List.getD_eq_getElem?_getD, List.getElem?_append_left (by rw [List.length_replicate]; omega), List.getElem?_replicate, if_pos (by omega)]
    rfl
theorem col_loop (h : Nums b ns W) (p : Pen) {k : Nat} (hk : k < W) (x0 x2 x4 x9 : Option Sl) : ∀ (ms : List Nat) (f j : Nat) (x7 x8 : Option Sl), (∀ n ∈ ms, n ∈ ns) → f < b ^ j → j + ms.length ≤ 20 →
    ∃ x7' x8', forGo (gN 7) (sSeq (sAsg (eBin subD (eVar 5) (eBin subD (eVar 3) (eUn lenD (eLook 7)))) (gN 8)) (sAsg (eBin addD (eBin mulD3 (eVar 6) (eLook 1)) (eIf (tmB (eBin geD (eVar 8) (eC (.int 0)))) (eBin ixD (eVar 7) (eLook 8)) (eC (.int 0)))) (gN 6))) (rowsL b ms)
      [x0, I_ b, x2, I_ W, x4, I_ k, I_ f, x7, x8, x9] p = .nx [x0, I_ b, x2, I_ W, x4, I_ k, I_ (numF b f (ms.map fun n => (pad b W n).getD k 0)), x7', x8', x9] p
  | [], f, j, x7, x8, _, _, _ => ⟨x7, x8, rfl⟩
  | n :: ms, f, j, x7, x8, hm, hf, hj => by
    rw [List.length_cons] at hj
    have hn := hm n (by simp)
    have hb := h.hb
    have hw := h.wid n hn
    have f60 : f < 2 ^ 60 := by
      have a1 : b ^ j ≤ 4 ^ j := Nat.pow_le_pow_left hb.2 j
      have a2 : 4 ^ j ≤ 4 ^ 20 := Nat.pow_le_pow_right (by omega) (by omega)
      have a3 : (4 : Nat) ^ 20 ≤ 2 ^ 60 := by decide
      omega
    have dlt : (pad b W n).getD k 0 < b := by
      refine pad_lt hb.1 W n _ ?_
      rw [List.getD_eq_getElem?_getD, List.getElem?_eq_getElem (by rw [pad_len]; exact hk)]
      exact List.getElem_mem _
    have hg := pad_get h hn hk
    obtain ⟨x7', x8', ih⟩ := col_loop h p hk x0 x2 x4 x9 ms (f * b + (pad b W n).getD k 0) (j + 1) (vd (.lst (nInts (digs b n)))) (vd (.int ((k : Int) - ((W : Int) - ((digs b n).length : Int))))) (fun y hy => hm y (by simp [hy])) (num_step hf dlt) (by omega)
    refine ⟨x7', x8', ?_⟩
    refine (forGo_nx (e1 := [x0, I_ b, x2, I_ W, x4, I_ k, I_ f, vd (.lst (nInts (digs b n))), x8, x9]) rfl ?_).trans ih
    have s1 : sAsg (eBin subD (eVar 5) (eBin subD (eVar 3) (eUn lenD (eLook 7)))) (gN 8) [x0, I_ b, x2, I_ W, x4, I_ k, I_ f, vd (.lst (nInts (digs b n))), x8, x9] p = .nx [x0, I_ b, x2, I_ W, x4, I_ k, I_ f, vd (.lst (nInts (digs b n))), vd (.int ((k : Int) - ((W : Int) - ((digs b n).length : Int)))), x9] p :=
      sAsg_ok (eBin_ok (eVar_v rfl) (eBin_ok (eVar_v rfl) (eUn_ok (eLook_v rfl) (by rw [o_lenL, List.length_map])) (o_sub _ _)) (o_sub _ _)) rfl
    refine (sSeq_nx s1).trans ?_
    refine sAsg_ok (d := .int ((f * b + (pad b W n).getD k 0 : Nat) : Int)) (e1 := [x0, I_ b, x2, I_ W, x4, I_ k, I_ f, vd (.lst (nInts (digs b n))), vd (.int ((k : Int) - ((W : Int) - ((digs b n).length : Int)))), x9]) (eBin_ok (eBin_ok (eVar_v rfl) (eLook_v rfl) (o_mul60 f60 hb.2)) (d2 := .int (((pad b W n).getD k 0 : Nat) : Int)) (e2 := [x0, I_ b, x2, I_ W, x4, I_ k, I_ f, vd (.lst (nInts (digs b n))), vd (.int ((k : Int) - ((W : Int) - ((digs b n).length : Int)))), x9]) (p2 := p) ?_ (by rw [o_add, Int.natCast_add])) rfl
    by_cases z : W - (digs b n).length ≤ k
    · rw [hg, if_pos z]
      refine eIf_t (tmB_ok (eBin_ok (eVar_v rfl) eC_ok (ge_t (by omega)))) (eBin_ok (eVar_v rfl) (eLook_v rfl) ?_)
      have e : (k : Int) - ((W : Int) - ((digs b n).length : Int)) = ((k - (W - (digs b n).length) : Nat) : Int) := by omega
      rw [e]
      refine ixD_lst (by omega) ?_
      rw [Int.toNat_natCast, List.getElem?_map, List.getD_eq_getElem?_getD, List.getElem?_eq_getElem (by omega)]
      rfl
    · rw [hg, if_neg z]
      exact eIf_f (tmB_ok (eBin_ok (eVar_v rfl) eC_ok (ge_f (by omega)))) eC_ok
theorem law_columns_n (h : Nums b ns W) (p : Pen) : F__law_columns [.lst (nInts ns), .int (b : Int)] p = .ok (.lst (nInts (colsN h))) p := by
  have hl := h.len
  have s1 : sOwn (fComp [] (iAny (eVar 0)) [9] (gN 9) (tmYes) (eCall F__law_digits (aCons (eVar 9) (aCons (eVar 1) (aNil))) [])) 2 [vd (.lst (nInts ns)), I_ b, none, none, none, none, none, none, none, none] p =
      .nx [vd (.lst (nInts ns)), I_ b, some (.own (rowsL b ns)), none, none, none, none, none, none, none] p :=
    sOwn_ok (fComp_gen (fun (n : Nat) => D.int (n : Int)) (fun n => .lst (nInts (digs b n))) (iAny_l (eVar_v rfl)) (by omega) fun n hn => ⟨_, rfl, _, rfl, _, eCall_ok (aCons_ok (eVar_v rfl) (aCons_ok (eVar_v rfl) aNil_ok)) (law_digits h.hb (Nat.lt_trans (h.lt n hn) (by decide)) p)⟩)
  have s2 : sAsg (eUn maxD (eBin addD (eF (fLst (aCons (eC (.int 0)) (aNil)))) (eF (fComp [] (iAny (eVar 2)) [7] (gN 7) (tmYes) (eUn lenD (eLook 7)))))) (gN 3) [vd (.lst (nInts ns)), I_ b, some (.own (rowsL b ns)), none, none, none, none, none, none, none] p =
      .nx [vd (.lst (nInts ns)), I_ b, vd (.lst (rowsL b ns)), I_ W, none, none, none, none, none, none] p := by
    have q : fComp [] (iAny (eVar 2)) [7] (gN 7) (tmYes) (eUn lenD (eLook 7)) [vd (.lst (nInts ns)), I_ b, some (.own (rowsL b ns)), none, none, none, none, none, none, none] p =
        .ok (ns.map fun n => D.int (((digs b n).length : Nat) : Int)) [vd (.lst (nInts ns)), I_ b, vd (.lst (rowsL b ns)), none, none, none, none, none, none, none] p :=
      fComp_gen (fun (n : Nat) => D.lst (nInts (digs b n))) (fun n => D.int (((digs b n).length : Nat) : Int)) (iAny_l (eVar_o rfl)) (by omega) fun n hn => ⟨_, rfl, _, rfl, _, eUn_ok (eLook_v rfl) (by rw [o_lenL, List.length_map])⟩
    refine sAsg_ok (eUn_ok (eBin_ok (eF_ok (fLst_ok (aCons_ok eC_ok aNil_ok) (by decide))) (eF_ok q) ?_) h.max) rfl
    have e : (ns.map fun n => D.int (((digs b n).length : Nat) : Int)) = nInts (ns.map fun n => (digs b n).length) := by simp [nInts]
    rw [e]
    show (if small (1 + (nInts (ns.map fun n => (digs b n).length)).length) then some (D.lst ([.int 0] ++ nInts (ns.map fun n => (digs b n).length))) else none) = _
    rw [if_pos (by simp; omega)]
    rfl
  have go : ∀ (m : Nat) (ks : List Nat) (x5 x6 x7 x8 : Option Sl), (∀ k ∈ ks, k < W) → m + ks.length ≤ 1000 → ∀ ys : List Nat, ys.length = m →
      ∃ x5' x6' x7' x8', forGo (gN 5) (sSeq (sAsg (eC (.int 0)) (gN 6)) (sSeq (sFor (iAny (eVar 2)) (gN 7) (sSeq (sAsg (eBin subD (eVar 5) (eBin subD (eVar 3) (eUn lenD (eLook 7)))) (gN 8)) (sAsg (eBin addD (eBin mulD3 (eVar 6) (eLook 1)) (eIf (tmB (eBin geD (eVar 8) (eC (.int 0)))) (eBin ixD (eVar 7) (eLook 8)) (eC (.int 0)))) (gN 6)))) (sAppend 4 (eVar 6)))) (ks.map fun k : Nat => .int (k : Int))
        [vd (.lst (nInts ns)), I_ b, vd (.lst (rowsL b ns)), I_ W, some (.own (nInts ys)), x5, x6, x7, x8, none] p = .nx [vd (.lst (nInts ns)), I_ b, vd (.lst (rowsL b ns)), I_ W, some (.own (nInts (ys ++ ks.map fun k => numB b (col h.P k)))), x5', x6', x7', x8', none] p := by
    intro m ks
    induction ks generalizing m with
    | nil => intro x5 x6 x7 x8 _ _ ys _; exact ⟨x5, x6, x7, x8, by simp [forGo]⟩
    | cons k ks ih =>
      intro x5 x6 x7 x8 hk hm ys hy
      rw [List.length_cons] at hm
      obtain ⟨x7', x8', c1⟩ := col_loop h p (hk k (by simp)) (vd (.lst (nInts ns))) (vd (.lst (rowsL b ns))) (some (.own (nInts ys))) none ns 0 0 x7 x8 (fun _ z => z) (by simp) (by omega)
      have ec : (ns.map fun n => (pad b W n).getD k 0) = col h.P k := by unfold col Nums.P; rw [List.map_map]; rfl
      rw [ec] at c1
      obtain ⟨z5, z6, z7, z8, i1⟩ := ih (m + 1) (I_ k) (I_ (numB b (col h.P k))) x7' x8' (fun y hy => hk y (by simp [hy])) (by omega) (ys ++ [numB b (col h.P k)]) (by rw [List.length_append, hy]; rfl)
      refine ⟨z5, z6, z7, z8, ?_⟩
      rw [List.map_cons, List.map_cons, show ys ++ numB b (col h.P k) :: ks.map (fun k => numB b (col h.P k)) = ys ++ [numB b (col h.P k)] ++ ks.map (fun k => numB b (col h.P k)) by simp]
      refine (forGo_nx (e1 := [vd (.lst (nInts ns)), I_ b, vd (.lst (rowsL b ns)), I_ W, some (.own (nInts ys)), I_ k, x6, x7, x8, none]) rfl ?_).trans i1
      refine (sSeq_nx (e' := [vd (.lst (nInts ns)), I_ b, vd (.lst (rowsL b ns)), I_ W, some (.own (nInts ys)), I_ k, I_ 0, x7, x8, none]) (p' := p) (sAsg_ok eC_ok rfl)).trans ?_
      refine (sSeq_nx (sFor_ok (iAny_l (eVar_v rfl)) c1)).trans ?_
      refine (sAppend_ok (xs := nInts ys) rfl (eVar_v rfl) rfl (by rw [List.length_map]; omega)).trans ?_
      rw [show nInts (ys ++ [numB b (col h.P k)]) = nInts ys ++ [.int ((numB b (col h.P k) : Nat) : Int)] by simp [nInts]]
      rfl
  have hs := h.small
  obtain ⟨x5, x6, x7, x8, g1⟩ := go 0 (List.range W) none none none none (fun k hk => List.mem_range.mp hk) (by rw [List.length_range]; omega) [] rfl
  unfold F__law_columns B__law_columns
  refine mkF_rt (e' := [vd (.lst (nInts ns)), I_ b, vd (.lst (rowsL b ns)), I_ W, vd (.lst (nInts (colsN h))), x5, x6, x7, x8, none]) [vd (.lst (nInts ns)), I_ b, none, none, none, none, none, none, none, none] rfl ?_
  refine (sSeq_nx s1).trans ((sSeq_nx s2).trans ?_)
  refine (sSeq_nx (e' := [vd (.lst (nInts ns)), I_ b, vd (.lst (rowsL b ns)), I_ W, some (.own (nInts [])), none, none, none, none, none]) (p' := p) (sOwn_ok (fLst_ok aNil_ok (by simp)))).trans ?_
  refine (sSeq_nx (sFor_ok (range_n2 W (by omega) (eVar_v rfl)) g1)).trans ?_
  exact sRet_ok (eVar_o rfl)
theorem cols_lt (h : Nums b ns W) : ∀ c ∈ colsN h, c < b ^ ns.length := fun c hc => by
  obtain ⟨k, hk, rfl⟩ := List.mem_map.mp hc
  have hk := List.mem_range.mp hk
  have hb := h.hb
  have q := numB_lt (b := b) (by omega) (ds := col h.P k) fun d hd => by
    obtain ⟨r, hr, rfl⟩ := List.mem_map.mp hd
    have hr' := hr
    obtain ⟨n, hn, rfl⟩ := List.mem_map.mp hr
    refine pad_lt hb.1 W n _ ?_
    rw [List.getD_eq_getElem?_getD, List.getElem?_eq_getElem (by rw [pad_len]; exact hk)]
    exact List.getElem_mem _
  rw [col_len] at q
  unfold Nums.P at q
  rw [List.length_map] at q
  exact q
end
end K09

namespace K09
open PySem PySem.Spec L2 Pd PdSet
theorem pow_split (b k : Nat) : b ^ k = (if k % 2 = 1 then b else 1) * (b * b) ^ (k / 2) := by
  have e : (b * b) ^ (k / 2) = b ^ (2 * (k / 2)) := by rw [Nat.pow_mul, Nat.pow_two]
  rw [e]
  split
  · rename_i z
    rw [← Nat.pow_succ']
    congr 1
    omega
  · rw [Nat.one_mul]
    congr 1
    omega
theorem pow_go (p : Pen) : ∀ (k b r : Nat), 1 ≤ b → 1 ≤ r → r * b ^ k < 2 ^ 60 → ∃ x0, sWhile (tmB (eBin gtD (eVar 1) (eC (.int 0)))) (sSeq (sIf (tmB (eBin eqD (eBin andD (eVar 1) (eC (.int 1))) (eC (.int 1)))) (sAsg (eBin mulD3 (eVar 2) (eLook 0)) (gN 2)) (sNext))
    (sSeq (sAsg (eBin shrD (eVar 1) (eC (.int 1))) (gN 1))
    (sIf (tmB (eBin gtD (eVar 1) (eC (.int 0)))) (sAsg (eBin mulD3 (eVar 0) (eLook 0)) (gN 0)) (sNext)))) [I_ b, I_ k, I_ r] p = .nx [x0, I_ 0, I_ (r * b ^ k)] p := by
  intro k
  induction k using Nat.strongRecOn with
  | _ k ih =>
    intro b r hb hr hl
    rw [sWhile_eq]
    by_cases z : 0 < k
    · rw [show tmB (eBin gtD (eVar 1) (eC (.int 0))) [I_ b, I_ k, I_ r] p = .ok true [I_ b, I_ k, I_ r] p from tmB_ok (eBin_ok (eVar_v rfl) eC_ok (gt_t (by omega)))]
      dsimp only
      have hbk : b ≤ b ^ k := by
        have := Nat.pow_le_pow_right hb z
        rwa [Nat.pow_one] at this
      have h1 : b ^ k ≤ r * b ^ k := Nat.le_mul_of_pos_left _ hr
      have h2 : r ≤ r * b ^ k := Nat.le_mul_of_pos_right _ (Nat.pow_pos hb)
      have b60 : b < 2 ^ 60 := by omega
      have r60 : r < 2 ^ 60 := by omega
      have sp := pow_split b k
      have and1 : andD (.int (k : Int)) (.int 1) = some (.int ((k % 2 : Nat) : Int)) := by
        show some (D.int ((k : Int) % 2)) = _
        congr 2
      have shr1 : shrD (.int (k : Int)) (.int 1) = some (.int ((k / 2 : Nat) : Int)) := by
        show (if (0 : Int) ≤ 1 then some (D.int ((k : Int) / 2 ^ (1 : Int).toNat)) else none) = _
        rw [if_pos (by decide)]
        congr 2
      -- the odd bit
      obtain ⟨r', e1, hr', er⟩ : ∃ r', sIf (tmB (eBin eqD (eBin andD (eVar 1) (eC (.int 1))) (eC (.int 1)))) (sAsg (eBin mulD3 (eVar 2) (eLook 0)) (gN 2)) (sNext) [I_ b, I_ k, I_ r] p = .nx [I_ b, I_ k, I_ r'] p ∧ 1 ≤ r' ∧ r' * (b * b) ^ (k / 2) = r * b ^ k := by
        by_cases o : k % 2 = 1
        · refine ⟨r * b, (sIf_t (tmB_ok (eBin_ok (eBin_ok (eVar_v rfl) eC_ok and1) eC_ok (by rw [o]; exact eq_t 1)))).trans (sAsg_ok (eBin_ok (eVar_v rfl) (eLook_v rfl) (o_mulB r60 b60)) rfl), Nat.mul_pos hr hb, ?_⟩
          rw [sp, if_pos o, Nat.mul_assoc]
        · refine ⟨r, sIf_fn (tmB_ok (eBin_ok (eBin_ok (eVar_v rfl) eC_ok and1) eC_ok (eq_f (by omega)))), hr, ?_⟩
          rw [sp, if_neg o, Nat.one_mul]
      have s2 : sAsg (eBin shrD (eVar 1) (eC (.int 1))) (gN 1) [I_ b, I_ k, I_ r'] p = .nx [I_ b, I_ (k / 2), I_ r'] p := sAsg_ok (eBin_ok (eVar_v rfl) eC_ok shr1) rfl
      by_cases y : 0 < k / 2
      · have s3 : sIf (tmB (eBin gtD (eVar 1) (eC (.int 0)))) (sAsg (eBin mulD3 (eVar 0) (eLook 0)) (gN 0)) (sNext) [I_ b, I_ (k / 2), I_ r'] p = .nx [I_ (b * b), I_ (k / 2), I_ r'] p :=
          (sIf_t (tmB_ok (eBin_ok (eVar_v rfl) eC_ok (gt_t (by omega))))).trans (sAsg_ok (eBin_ok (eVar_v rfl) (eLook_v rfl) (o_mulB b60 b60)) rfl)
        rw [(sSeq_nx e1).trans ((sSeq_nx s2).trans s3)]
        dsimp only
        obtain ⟨x0, q⟩ := ih (k / 2) (by omega) (b * b) r' (Nat.mul_pos hb hb) hr' (by rw [er]; exact hl)
        exact ⟨x0, by rw [q, er]⟩
      · have y0 : k / 2 = 0 := by omega
        rw [y0] at s2 er
        have s3 : sIf (tmB (eBin gtD (eVar 1) (eC (.int 0)))) (sAsg (eBin mulD3 (eVar 0) (eLook 0)) (gN 0)) (sNext) [I_ b, I_ 0, I_ r'] p = .nx [I_ b, I_ 0, I_ r'] p :=
          sIf_fn (tmB_ok (eBin_ok (eVar_v rfl) eC_ok (gt_f (by omega))))
        rw [(sSeq_nx e1).trans ((sSeq_nx s2).trans s3)]
        dsimp only
        obtain ⟨x0, q⟩ := ih 0 z b r' hb hr' (by rw [Nat.pow_zero] at er ⊢; omega)
        refine ⟨x0, ?_⟩
        rw [q, Nat.pow_zero]
        rw [Nat.pow_zero] at er
        rw [er]
    · have k0 : k = 0 := by omega
      subst k0
      rw [show tmB (eBin gtD (eVar 1) (eC (.int 0))) [I_ b, I_ 0, I_ r] p = .ok false [I_ b, I_ 0, I_ r] p from tmB_ok (eBin_ok (eVar_v rfl) eC_ok (gt_f (by omega)))]
      exact ⟨_, by rw [Nat.pow_zero, Nat.mul_one]⟩
theorem power_n {b k : Nat} (hb : 1 ≤ b) (h : b ^ k < 2 ^ 60) (p : Pen) : F_power_of [.int (b : Int), .int (k : Int)] p = .ok (.int ((b ^ k : Nat) : Int)) p := by
  obtain ⟨x0, q⟩ := pow_go p k b 1 hb (Nat.le_refl _) (by rw [Nat.one_mul]; exact h)
  rw [Nat.one_mul] at q
  unfold F_power_of B_power_of
  refine mkF_rt (e' := [x0, I_ 0, I_ (b ^ k)]) [I_ b, I_ k, none] rfl ?_
  exact (sSeq_nx (sAsg_ok eC_ok rfl)).trans ((sSeq_nx q).trans (sRet_ok (eVar_v rfl)))
structure LsOk (ls : List Str) : Prop where
  nm : ∀ x ∈ ls, ∀ p, F_is_name [.str x] p = .ok (.bl true) p
  few : ls.length ≤ 2
  srt : eqD (.lst (ls.map D.str)) (.lst ((sortS (metL ls)).map D.str)) = some (.bl true)
structure Mc where
  b : Nat
  ls : List Str
  es : List Nat
  rows : List (List Nat)
def Mc.C (m : Mc) : Nat := m.b ^ m.ls.length
def Mc.d (m : Mc) : D := .obj "Machine" [("base", .int (m.b : Int)), ("letters", .tup (m.ls.map D.str)), ("ends", .tup (nInts m.es)), ("steps", .tup (m.rows.map fun r => .tup (nInts r))), ("many", .int (m.es.length : Int))]
def st (rows : List (List Nat)) (s c : Nat) : Nat := (rows.getD s []).getD c 0
structure Mc.Ok (m : Mc) : Prop where
  hb : 2 ≤ m.b ∧ m.b ≤ 4
  ls : LsOk m.ls
  C : m.C ≤ 32
  len : m.rows.length = m.es.length
  es : 1 ≤ m.es.length ∧ m.es.length ≤ 5
  bit : ∀ e ∈ m.es, e ≤ 1
  row : ∀ r ∈ m.rows, r.length = m.C ∧ ∀ x ∈ r, x < m.es.length
  nul : st m.rows 0 0 = 0
theorem Mc.Ok.C0 {m : Mc} (h : m.Ok) : 1 ≤ m.C := Nat.pow_pos (by have := h.hb; omega)
theorem is_row_s {ys : List D} {d : D} (h : SeqD ys d) (p : Pen) : F_is_row [d] p = .ok (.bl true) p := by
  unfold F_is_row B_is_row
  exact mkF_rt (e' := [vd d]) [vd d] rfl (sRet_ok (eUn_ok (eLook_v rfl) h.isi))
theorem is_int_n (i : Int) (p : Pen) : F_is_integer [.int i] p = .ok (.bl true) p := rfl
theorem letters_ok {b : Nat} {ls : List Str} {d : D} (hb : 1 ≤ b) (h : LsOk ls) (hC : b ^ ls.length ≤ 32) (hd : SeqD (ls.map D.str) d) (p : Pen) : F_are_letters [d, .int (b : Int)] p = .ok (.bl true) p := by
  have hf := h.few
  unfold F_are_letters B_are_letters
  refine mkF_rt (e' := [vd d, I_ b, none]) [vd d, I_ b, none] rfl ?_
  have c : eUn allD (eF (fComp [] (iAny (eVar 0)) [2] (gN 2) (tmYes) (eCall F_is_name (aCons (eVar 2) (aNil)) []))) [vd d, I_ b, none] p = .ok (.bl true) [vd d, I_ b, none] p :=
    all_comp (ds := ls.map D.str) (hd.any (eVar_v rfl)) (by rw [List.length_map]; omega) fun x hx => by
      obtain ⟨y, hy, rfl⟩ := List.mem_map.mp hx
      exact ⟨_, _, rfl, rfl, _, eCall_ok (aCons_ok (eVar_v rfl) aNil_ok) (h.nm y hy p)⟩
  have t : tmOr (tmNot (tmE (eCall F_is_row (aCons (eVar 0) (aNil)) []))) (tmOr (tmB (eBin gtD (eUn lenD (eLook 0)) (eC (.int 5)))) (tmNot (tmE (eUn allD (eF (fComp [] (iAny (eVar 0)) [2] (gN 2) (tmYes) (eCall F_is_name (aCons (eVar 2) (aNil)) []))))))) [vd d, I_ b, none] p = .ok false [vd d, I_ b, none] p :=
    tmOr_f (tmNot_ok (c := true) (tmE_ok (eCall_ok (aCons_ok (eVar_v rfl) aNil_ok) (is_row_s hd p)) rfl)) (tmOr_f (tmB_ok (eBin_ok (eUn_ok (eLook_v rfl) hd.len) eC_ok (gt_f (by rw [List.length_map]; omega)))) (tmNot_ok (c := true) (tmE_ok c rfl)))
  have pw : b ^ ls.length < 2 ^ 60 := Nat.lt_of_le_of_lt hC (by decide)
  have ln : lenD d = some (.int (ls.length : Int)) := by rw [hd.len, List.length_map]
  refine (sSeq_nx (sIf_fn t)).trans (sRet_ok (eAnd_t (d := .bl true) (e1 := [vd d, I_ b, none]) (p1 := p) (eBin_ok (eF_ok (hd.listF (eLook_v rfl))) (eF_ok (ds := (sortS (metL ls)).map D.str) ?_) h.srt) rfl (eBin_ok (eCall_ok (aCons_ok (eVar_v rfl) (aCons_ok (eUn_ok (eLook_v rfl) ln) aNil_ok)) (power_n hb pw p)) eC_ok (le_t (by omega)))))
  unfold fSortSet
  rw [eLook_v rfl]
  have te : textsD d = some ls := by
    cases hd
    · exact strs?_map ls
    · exact strs?_map ls
  show (match textsD d with | some xs => if xs.length < 64 then Res.ok ((sortS (metL xs)).map D.str) _ p else .bad | none => .bad) = _
  rw [te]
  dsimp only
  rw [if_pos (by omega)]
theorem ends_ok {es : List Nat} {d : D} (hl : 1 ≤ es.length ∧ es.length ≤ 300) (he : ∀ e ∈ es, e ≤ 1) (hd : SeqD (nInts es) d) (p : Pen) : F_are_ends [d] p = .ok (.bl true) p := by
  unfold F_are_ends B_are_ends
  refine mkF_rt (e' := [vd d, none]) [vd d, none] rfl ?_
  have ln : lenD d = some (.int (es.length : Int)) := by rw [hd.len, List.length_map]
  refine (sSeq_nx (sIf_fn (tmOr_f (tmNot_ok (c := true) (tmE_ok (eCall_ok (aCons_ok (eVar_v rfl) aNil_ok) (is_row_s hd p)) rfl)) (tmNot_ok (c := true) (tmB_ok (eChain_t eC_ok (eUn_ok (eLook_v rfl) ln) (le_t (by omega)) eC_ok (le_t (by omega)))))))).trans ?_
  refine sRet_ok (all_comp (ds := nInts es) (hd.any (eVar_v rfl)) (by rw [List.length_map]; omega) fun x hx => ?_)
  obtain ⟨n, hn, rfl⟩ := List.mem_map.mp hx
  refine ⟨_, _, rfl, rfl, _, eAnd_t (eCall_ok (aCons_ok (eVar_v rfl) aNil_ok) (is_int_n _ p)) rfl (eBin_ok (eVar_v rfl) (eTup_ok (aCons_ok eC_ok (aCons_ok eC_ok aNil_ok)) (by simp)) ?_)⟩
  have := he n hn
  obtain rfl | rfl : n = 0 ∨ n = 1 := by omega
  · kernel_rfl
  · kernel_rfl
def rwD (q : List Nat × Bool) : D := if q.2 = true then .tup (nInts q.1) else .lst (nInts q.1)
theorem rw_seq (q : List Nat × Bool) : SeqD (nInts q.1) (rwD q) := by
  unfold rwD
  split
  · exact .tup
  · exact .lst
def itemsB (x : D) : List D := match x with
  | .lst ys => ys.map fun _ => D.bl true
  | .tup ys => ys.map fun _ => D.bl true
  | _ => []
theorem items_rw (q : List Nat × Bool) : itemsB (rwD q) = q.1.map fun _ => D.bl true := by
  obtain ⟨r, t⟩ := q
  cases t
  · show (nInts r).map (fun _ => D.bl true) = _
    simp [nInts]
  · show (nInts r).map (fun _ => D.bl true) = _
    simp [nInts]
theorem steps_ok {qs : List (List Nat × Bool)} {n C : Nat} {d : D} (hn : qs.length = n) (h1 : n ≤ 300) (hC : C ≤ 32) (hr : ∀ q ∈ qs, q.1.length = C ∧ ∀ x ∈ q.1, x < n) (hd : SeqD (qs.map rwD) d) (p : Pen) : F_are_steps [d, .int (n : Int), .int (C : Int)] p = .ok (.bl true) p := by
  unfold F_are_steps B_are_steps
  refine mkF_rt (e' := [vd d, I_ n, I_ C, none, none]) [vd d, I_ n, I_ C, none, none] rfl ?_
  have ln : lenD d = some (.int (n : Int)) := by rw [hd.len, List.length_map, hn]
  refine (sSeq_nx (sIf_fn (tmOr_f (tmNot_ok (c := true) (tmE_ok (eCall_ok (aCons_ok (eVar_v rfl) aNil_ok) (is_row_s hd p)) rfl)) (tmB_ok (eBin_ok (eUn_ok (eLook_v rfl) ln) (eLook_v rfl) (ne_f _)))))).trans ?_
  have c1 : eUn allD (eF (fComp [] (iAny (eVar 0)) [3] (gN 3) (tmYes) (eAnd (eCall F_is_row (aCons (eVar 3) (aNil)) []) (eBin eqD (eUn lenD (eLook 3)) (eLook 2))))) [vd d, I_ n, I_ C, none, none] p = .ok (.bl true) [vd d, I_ n, I_ C, none, none] p :=
    all_comp (ds := qs.map rwD) (hd.any (eVar_v rfl)) (by rw [List.length_map]; omega) fun x hx => by
      obtain ⟨q, hq, rfl⟩ := List.mem_map.mp hx
      refine ⟨_, _, rfl, rfl, _, eAnd_t (eCall_ok (aCons_ok (eVar_v rfl) aNil_ok) (is_row_s (rw_seq q) p)) rfl (eBin_ok (eUn_ok (eLook_v rfl) (rw_seq q).len) (eLook_v rfl) ?_)⟩
      rw [List.length_map, (hr q hq).1]
      exact eq_t _
  refine (sSeq_nx (sIf_fn (tmNot_ok (c := true) (tmE_ok c1 rfl)))).trans (sRet_ok ?_)
  have c2 : fComp2 [] (iAny (eVar 0)) [3, 4] (gN 3) (tmYes) (iAny (eVar 3)) [4] (gN 4) (tmYes) (eAnd (eCall F_is_integer (aCons (eVar 4) (aNil)) []) (eChain leD ltD (eC (.int 0)) (eVar 4) (eLook 1))) [vd d, I_ n, I_ C, none, none] p = .ok ((qs.flatMap fun q => nInts q.1).map fun _ => D.bl true) [vd d, I_ n, I_ C, none, none] p := by
    unfold fComp2
    have e0 : iAny (eVar 0) (freeze [] [vd d, I_ n, I_ C, none, none]) p = .ok (qs.map rwD) [vd d, I_ n, I_ C, none, none] p := hd.any (eVar_v rfl)
    rw [e0]
    have q := compGo2_flat (g := gN 3) (t := tmYes) (it1 := iAny (eVar 3)) (vs1 := [4]) (g1 := gN 4) (t1 := tmYes) (f := eAnd (eCall F_is_integer (aCons (eVar 4) (aNil)) []) (eChain leD ltD (eC (.int 0)) (eVar 4) (eLook 1))) (eb := mask [3, 4] [vd d, I_ n, I_ C, none, none]) (p := p) (F := itemsB) (qs.map rwD) fun x hx => by
        obtain ⟨q, hq, rfl⟩ := List.mem_map.mp hx
        refine ⟨[vd d, I_ n, I_ C, vd (rwD q), none], [vd d, I_ n, I_ C, vd (rwD q), none], nInts q.1, [vd d, I_ n, I_ C, vd (rwD q), none], rfl, rfl, (rw_seq q).any (eVar_v rfl), ?_⟩
        rw [items_rw]
        exact compGo_gen (α := Nat) (I := fun k => .int (k : Int)) (G := fun _ => .bl true) fun k hk => ⟨_, rfl, _, rfl, [vd d, I_ n, I_ C, vd (rwD q), I_ k], eAnd_t (eCall_ok (aCons_ok (eVar_v rfl) aNil_ok) (is_int_n _ p)) rfl (eChain_t eC_ok (eVar_v rfl) (le_t (by omega)) (eLook_v rfl) (lt_t (by have := (hr q hq).2 k hk; omega)))⟩
    simp only [Res.bind]
    rw [q]
    dsimp only
    have el : (qs.map rwD).flatMap itemsB = (qs.flatMap fun q => nInts q.1).map fun _ => D.bl true := by
      rw [List.map_flatMap, List.flatMap_map]
      congr 1
      funext q
      rw [items_rw]
      simp [nInts]
    rw [el]
    have lb : ((qs.flatMap fun q => nInts q.1).map fun _ => D.bl true).length ≤ 10000000 := by
      rw [List.length_map, List.length_flatMap]
      have : ∀ l : List (List Nat × Bool), (∀ q ∈ l, q.1.length = C) → (l.map fun q => (nInts q.1).length).sum ≤ l.length * 32 := by
        intro l
        induction l with
        | nil => intro _; simp
        | cons x l ih =>
          intro hx
          have h1 := hx x (by simp)
          have h2 := ih fun q hq => hx q (by simp [hq])
          simp only [List.map_cons, List.sum_cons, List.length_map, List.length_cons] at h2 ⊢
          omega
      have := this qs fun q hq => (hr q hq).1
      omega
    rw [if_pos lb]
  exact eUn_ok (eF_ok c2) (all_true _)
end K09

namespace K09
open PySem PySem.Spec L2 Pd PdSet
theorem tupT (l : List (List Nat)) {s c : Nat} {r : List Nat} (h : l[s]? = some r) : ixD (.tup (l.map fun r => .tup (nInts r))) (.int (s : Int)) = some (.tup (nInts r)) := ixD_tup (by rw [List.getElem?_map, h]; rfl)
theorem lstL (l : List (List Nat)) {s : Nat} {r : List Nat} (h : l[s]? = some r) : ixD (.lst (l.map fun r => .lst (nInts r))) (.int (s : Int)) = some (.lst (nInts r)) := ixD_lst (by omega) (by rw [Int.toNat_natCast, List.getElem?_map, h]; rfl)
theorem nxL {l : List Nat} {i x : Nat} (h : l[i]? = some x) : ixD (.lst (nInts l)) (.int (i : Int)) = some (.int (x : Int)) := ixD_lst (by omega) (by rw [Int.toNat_natCast, List.getElem?_map, h]; rfl)
theorem fld_ok {f : Str} {fa : EM} {e e1 : Ev} {p p1 : Pen} {d : D} {gs : List (Str × D)} (h : fa e p = .ok d e1 p1) (h0 : e1[0]? = some (some (.ins "Machine" gs))) (hf : f ∈ (["base", "letters", "ends", "steps", "many"] : List Str)) (hl : gs.length < 900) : sFldS 0 cs f fa e p = .nx (e1.set 0 (some (.ins "Machine" (putD f d gs)))) p1 := by
  unfold sFldS
  rw [h]
  dsimp only [toS]
  rw [h0]
  have l : cs.lookup ("Machine" : Str) = some (["base", "letters", "ends", "steps", "many"] : List Str) := by kernel_rfl
  dsimp only
  rw [l]
  dsimp only
  rw [if_pos ⟨by simpa using hf, hl⟩]
section
variable {m : Mc}
theorem breach_ok (h : m.Ok) {L E S : D} (hL : SeqD (m.ls.map D.str) L) (hE : SeqD (nInts m.es) E) {qs : List (List Nat × Bool)} (hq : qs.map (·.1) = m.rows) (hS : SeqD (qs.map rwD) S) (p : Pen) : F_machine_breach [.int (m.b : Int), L, E, S] p = .ok .non p := by
  have hb := h.hb
  have hC := h.C
  have he := h.es
  unfold Mc.C at hC
  have pw : m.b ^ m.ls.length < 2 ^ 60 := Nat.lt_of_le_of_lt hC (by decide)
  have lnL : lenD L = some (.int (m.ls.length : Int)) := by rw [hL.len, List.length_map]
  have lnE : lenD E = some (.int (m.es.length : Int)) := by rw [hE.len, List.length_map]
  have ql : qs.length = m.es.length := by rw [← h.len, ← hq, List.length_map]
  have hq' : ∀ q ∈ qs, q.1 ∈ m.rows := fun q z => by rw [← hq]; exact List.mem_map.mpr ⟨q, z, rfl⟩
  unfold F_machine_breach B_machine_breach
  refine mkF_rt (e' := [I_ m.b, vd L, vd E, vd S]) [I_ m.b, vd L, vd E, vd S] rfl ?_
  refine (sSeq_nx (sIf_fn (tmOr_f (tmNot_ok (c := true) (tmE_ok (eCall_ok (aCons_ok (eVar_v rfl) aNil_ok) (is_int_n _ p)) rfl)) (tmNot_ok (c := true) (tmB_ok (eChain_t eC_ok (eVar_v rfl) (le_t (by omega)) eC_ok (le_t (by omega)))))))).trans ?_
  refine (sSeq_nx (sIf_fn (tmNot_ok (c := true) (tmE_ok (eCall_ok (aCons_ok (eVar_v rfl) (aCons_ok (eVar_v rfl) aNil_ok)) (letters_ok (by omega) h.ls hC hL p)) rfl)))).trans ?_
  refine (sSeq_nx (sIf_fn (tmNot_ok (c := true) (tmE_ok (eCall_ok (aCons_ok (eVar_v rfl) aNil_ok) (ends_ok ⟨he.1, by omega⟩ h.bit hE p)) rfl)))).trans ?_
  refine (sSeq_nx (sIf_fn (tmNot_ok (c := true) (tmE_ok (eCall_ok (aCons_ok (eVar_v rfl) (aCons_ok (eUn_ok (eLook_v rfl) lnE) (aCons_ok (eCall_ok (aCons_ok (eVar_v rfl) (aCons_ok (eUn_ok (eLook_v rfl) lnL) aNil_ok)) (power_n (by omega) pw p)) aNil_ok))) (steps_ok (qs := qs) ql (by omega) hC (fun q z => h.row _ (hq' q z)) hS p)) rfl)))).trans ?_
  -- the first step
  obtain ⟨q0, z0⟩ : ∃ q0, qs[0]? = some q0 := ⟨_, List.getElem?_eq_getElem (by omega)⟩
  have r0 : m.rows[0]? = some q0.1 := by rw [← hq, List.getElem?_map, z0]; rfl
  have len0 := (h.row q0.1 (List.mem_of_getElem? r0)).1
  have C0 := h.C0
  have x0 : q0.1[0]? = some 0 := by
    have n0 := h.nul
    unfold st at n0
    rw [List.getD_eq_getElem?_getD (l := m.rows), r0] at n0
    have e : q0.1[0]? = some (q0.1[0]'(by omega)) := List.getElem?_eq_getElem (by omega)
    rw [e]
    rw [List.getD_eq_getElem?_getD, show ((some q0.1).getD [])[0]? = q0.1[0]? from rfl, e] at n0
    rw [show q0.1[0]'(by omega) = 0 from n0]
  have i1 : ixD S (.int 0) = some (rwD q0) := by
    cases hS
    · exact ixD_lst (by omega) (by rw [show (0 : Int).toNat = 0 from rfl, List.getElem?_map, z0]; rfl)
    · exact ixD_tup (i := 0) (by rw [List.getElem?_map, z0]; rfl)
  have i2 : ixD (rwD q0) (.int 0) = some (.int 0) := by
    obtain ⟨r, t⟩ := q0
    cases t
    · exact nxL (i := 0) x0
    · exact nx (i := 0) x0
  exact sRet_ok (eIf_t (tmB_ok (eBin_ok (eBin_ok (eBin_ok (eVar_v rfl) eC_ok i1) eC_ok i2) eC_ok (eq_t 0))) eC_ok)
theorem made_ok (h : m.Ok) {L E S : D} (hL : SeqD (m.ls.map D.str) L) (hE : SeqD (nInts m.es) E) {qs : List (List Nat × Bool)} (hq : qs.map (·.1) = m.rows) (hS : SeqD (qs.map rwD) S) (p : Pen) :
    I_Machine [.int (m.b : Int), L, E, S] p = .ok [("base", .int (m.b : Int)), ("letters", .tup (m.ls.map D.str)), ("ends", .tup (nInts m.es)), ("steps", .tup (m.rows.map fun r => .tup (nInts r))), ("many", .int (m.es.length : Int))] p := by
  have ql : qs.length = m.es.length := by rw [← h.len, ← hq, List.length_map]
  have he := h.es
  have key : B_Machine_init [some (.ins "Machine" []), I_ m.b, vd L, vd E, vd S, none, none] p = .nx [some (.ins "Machine" [("base", .int (m.b : Int)), ("letters", .tup (m.ls.map D.str)), ("ends", .tup (nInts m.es)), ("steps", .tup (m.rows.map fun r => .tup (nInts r))), ("many", .int (m.es.length : Int))]), I_ m.b, vd L, vd E, vd S, vd .non, none] p := by
    unfold B_Machine_init
    refine (sSeq_nx (e' := [some (.ins "Machine" []), I_ m.b, vd L, vd E, vd S, vd .non, none]) (p' := p) (sAsg_ok (eCall_ok (aCons_ok (eVar_v rfl) (aCons_ok (eVar_v rfl) (aCons_ok (eVar_v rfl) (aCons_ok (eVar_v rfl) aNil_ok)))) (breach_ok h hL hE hq hS p)) rfl)).trans ?_
    refine (sSeq_nx (sIf_fn (tmB_ok (eNotN_c (eVar_v rfl) rfl)))).trans ?_
    refine (sSeq_nx (e' := [some (.ins "Machine" [("base", .int (m.b : Int))]), I_ m.b, vd L, vd E, vd S, vd .non, none]) (p' := p) (fld_ok (f := "base") (gs := []) (eVar_v rfl) rfl (by simp) (by simp))).trans ?_
    refine (sSeq_nx (e' := [some (.ins "Machine" [("base", .int (m.b : Int)), ("letters", .tup (m.ls.map D.str))]), I_ m.b, vd L, vd E, vd S, vd .non, none]) (p' := p) (fld_ok (f := "letters") (gs := [("base", .int (m.b : Int))]) (eUn_ok (eLook_v rfl) hL.tupD) rfl (by simp) (by simp))).trans ?_
    refine (sSeq_nx (e' := [some (.ins "Machine" [("base", .int (m.b : Int)), ("letters", .tup (m.ls.map D.str)), ("ends", .tup (nInts m.es))]), I_ m.b, vd L, vd E, vd S, vd .non, none]) (p' := p) (fld_ok (f := "ends") (gs := [("base", .int (m.b : Int)), ("letters", .tup (m.ls.map D.str))]) (eUn_ok (eLook_v rfl) hE.tupD) rfl (by simp) (by simp))).trans ?_
    have c : eUn tupleD (eF (fComp [] (iAny (eVar 4)) [6] (gN 6) (tmYes) (eUn tupleD (eLook 6)))) [some (.ins "Machine" [("base", .int (m.b : Int)), ("letters", .tup (m.ls.map D.str)), ("ends", .tup (nInts m.es))]), I_ m.b, vd L, vd E, vd S, vd .non, none] p = .ok (.tup (m.rows.map fun r => .tup (nInts r))) [some (.ins "Machine" [("base", .int (m.b : Int)), ("letters", .tup (m.ls.map D.str)), ("ends", .tup (nInts m.es))]), I_ m.b, vd L, vd E, vd S, vd .non, none] p := by
      have q := fComp_gen (js := []) (it := iAny (eVar 4)) (vs := [6]) (g := gN 6) (t := tmYes) (f := eUn tupleD (eLook 6)) (e := [some (.ins "Machine" [("base", .int (m.b : Int)), ("letters", .tup (m.ls.map D.str)), ("ends", .tup (nInts m.es))]), I_ m.b, vd L, vd E, vd S, vd .non, none]) (e' := [some (.ins "Machine" [("base", .int (m.b : Int)), ("letters", .tup (m.ls.map D.str)), ("ends", .tup (nInts m.es))]), I_ m.b, vd L, vd E, vd S, vd .non, none]) (p := p)
        rwD (fun q => .tup (nInts q.1)) (xs := qs) (hS.any (eVar_v rfl)) (by omega) fun q hq => ⟨_, rfl, _, rfl, _, eUn_ok (eLook_v rfl) (rw_seq q).tupD⟩
      rw [tupF_ok q, ← hq, List.map_map]
      rfl
    refine (sSeq_nx (e' := [some (.ins "Machine" [("base", .int (m.b : Int)), ("letters", .tup (m.ls.map D.str)), ("ends", .tup (nInts m.es)), ("steps", .tup (m.rows.map fun r => .tup (nInts r)))]), I_ m.b, vd L, vd E, vd S, vd .non, none]) (p' := p) (fld_ok (f := "steps") (gs := [("base", .int (m.b : Int)), ("letters", .tup (m.ls.map D.str)), ("ends", .tup (nInts m.es))]) c rfl (by simp) (by simp))).trans ?_
    refine fld_ok (f := "many") (gs := [("base", .int (m.b : Int)), ("letters", .tup (m.ls.map D.str)), ("ends", .tup (nInts m.es)), ("steps", .tup (m.rows.map fun r => .tup (nInts r)))]) (e1 := [some (.ins "Machine" [("base", .int (m.b : Int)), ("letters", .tup (m.ls.map D.str)), ("ends", .tup (nInts m.es)), ("steps", .tup (m.rows.map fun r => .tup (nInts r)))]), I_ m.b, vd L, vd E, vd S, vd .non, none]) (p1 := p) (d := .int (m.es.length : Int)) (eUn_ok (d1 := .tup (nInts m.es)) ?_ (by rw [o_lenT, List.length_map])) rfl (by simp) (by simp)
    have fl : fldD cs "ends" (.obj "Machine" [("base", .int (m.b : Int)), ("letters", .tup (m.ls.map D.str)), ("ends", .tup (nInts m.es)), ("steps", .tup (m.rows.map fun r => .tup (nInts r)))]) = some (.tup (nInts m.es)) := by kernel_rfl
    show optR (fldD cs "ends" (.obj "Machine" [("base", .int (m.b : Int)), ("letters", .tup (m.ls.map D.str)), ("ends", .tup (nInts m.es)), ("steps", .tup (m.rows.map fun r => .tup (nInts r)))])) _ p = _
    rw [fl]
    rfl
  unfold I_Machine mkI
  show (match B_Machine_init [some (.ins "Machine" []), I_ m.b, vd L, vd E, vd S, none, none] p with
    | .nx e p' => (match (e[0]? : Option (Option Sl)) with
      | some (some (.ins c' fs)) => if c' = "Machine" then IR.ok fs p' else .bad
      | _ => .bad)
    | .exc x _ p' => .exc x p'
    | _ => .bad) = _
  rw [key]
  rfl
theorem new_ok (h : m.Ok) {L E S : D} (hL : SeqD (m.ls.map D.str) L) (hE : SeqD (nInts m.es) E) {qs : List (List Nat × Bool)} (hq : qs.map (·.1) = m.rows) (hS : SeqD (qs.map rwD) S) {fs : AM} {e e1 : Ev} {p p1 : Pen} (hf : fs e p = .ok [.int (m.b : Int), L, E, S] e1 p1) : eNew "Machine" I_Machine fs [] e p = .ok m.d e1 p1 := by
  unfold eNew
  rw [hf]
  show (match I_Machine ([.int (m.b : Int), L, E, S] ++ []) p1 with | .ok gs p' => Res.ok (D.obj "Machine" gs) e1 p' | .exc x p' => .exc x e1 p' | .bad => .bad) = _
  rw [List.append_nil, made_ok h hL hE hq hS p1]
  rfl
theorem f_base : fldD cs "base" m.d = some (.int (m.b : Int)) := by kernel_rfl
theorem f_letters : fldD cs "letters" m.d = some (.tup (m.ls.map D.str)) := by kernel_rfl
theorem f_ends : fldD cs "ends" m.d = some (.tup (nInts m.es)) := by kernel_rfl
theorem f_steps : fldD cs "steps" m.d = some (.tup (m.rows.map fun r => .tup (nInts r))) := by kernel_rfl
theorem f_many : fldD cs "many" m.d = some (.int (m.es.length : Int)) := by kernel_rfl
theorem isM : isiC cs "Machine" m.d = some (.bl true) := by kernel_rfl
theorem need_m (p : Pen) : F_need_machine [m.d] p = .ok .non p := by
  unfold F_need_machine B_need_machine
  exact mkF_nx (e' := [vd m.d]) [vd m.d] rfl (sIf_fn (tmNot_ok (c := true) (tmE_ok (eUn_ok (eLook_v rfl) isM) rfl)))
def run (rows : List (List Nat)) (s : Nat) (cols : List Nat) : Nat := cols.foldl (st rows) s
theorem st_at (h : m.Ok) {s c : Nat} (hs : s < m.es.length) (hc : c < m.C) : ∃ r, m.rows[s]? = some r ∧ r[c]? = some (st m.rows s c) ∧ st m.rows s c < m.es.length := by
  have hs' : s < m.rows.length := by rw [h.len]; exact hs
  have e1 : m.rows[s]? = some m.rows[s] := List.getElem?_eq_getElem hs'
  obtain ⟨l1, l2⟩ := h.row _ (List.getElem_mem hs')
  have e2 : (m.rows[s])[c]? = some ((m.rows[s])[c]'(by omega)) := List.getElem?_eq_getElem _
  have e3 : st m.rows s c = (m.rows[s])[c]'(by omega) := by
    unfold st
    rw [List.getD_eq_getElem?_getD (l := m.rows), e1, List.getD_eq_getElem?_getD]
    show ((m.rows[s])[c]?).getD 0 = _
    rw [e2]
    rfl
  refine ⟨_, e1, by rw [e3]; exact e2, ?_⟩
  rw [e3]
  exact l2 _ (List.getElem_mem _)
theorem run_lt (h : m.Ok) : ∀ (cols : List Nat) (s : Nat), s < m.es.length → (∀ c ∈ cols, c < m.C) → run m.rows s cols < m.es.length
  | [], s, hs, _ => hs
  | c :: cols, s, hs, hc => run_lt h cols _ (st_at h hs (hc c (by simp))).choose_spec.2.2 fun x hx => hc x (by simp [hx])
theorem reach_go (h : m.Ok) (x1 : Option Sl) (p : Pen) : ∀ (cols : List Nat) (s : Nat) (x3 : Option Sl), s < m.es.length → (∀ c ∈ cols, c < m.C) →
    ∃ x3', forGo (gN 3) (sAsg (eBin ixD (eBin ixD (eUn (fldD cs "steps") (eVar 0)) (eLook 2)) (eLook 3)) (gN 2)) (nInts cols) [vd m.d, x1, I_ s, x3] p = .nx [vd m.d, x1, I_ (run m.rows s cols), x3'] p
  | [], s, x3, _, _ => ⟨x3, rfl⟩
  | c :: cols, s, x3, hs, hc => by
    obtain ⟨r, r1, r2, r3⟩ := st_at h hs (hc c (by simp))
    obtain ⟨x3', ih⟩ := reach_go h x1 p cols (st m.rows s c) (I_ c) r3 fun x hx => hc x (by simp [hx])
    exact ⟨x3', (forGo_nx (e1 := [vd m.d, x1, I_ s, I_ c]) rfl (sAsg_ok (eBin_ok (eBin_ok (eUn_ok (eVar_v rfl) f_steps) (eLook_v rfl) (tupT (c := 0) _ r1)) (eLook_v rfl) (nx r2)) rfl)).trans ih⟩
theorem reached_n (h : m.Ok) {cols : List Nat} (hc : ∀ c ∈ cols, c < m.C) {d : D} (hd : SeqD (nInts cols) d) (p : Pen) : F_reached_state [m.d, d] p = .ok (.int ((run m.rows 0 cols : Nat) : Int)) p := by
  obtain ⟨x3, q⟩ := reach_go h (vd d) p cols 0 none (by have := h.es; omega) hc
  unfold F_reached_state B_reached_state
  refine mkF_rt (e' := [vd m.d, vd d, I_ (run m.rows 0 cols), x3]) [vd m.d, vd d, none, none] rfl ?_
  exact (sSeq_nx (e' := [vd m.d, vd d, I_ 0, none]) (p' := p) (sAsg_ok eC_ok rfl)).trans ((sSeq_nx (sFor_ok (hd.any (eVar_v rfl)) q)).trans (sRet_ok (eVar_v rfl)))
abbrev rowsD (rows : List (List Nat)) : D := .lst (rows.map fun r => .lst (nInts r))
theorem led_go (h : m.Ok) (x1 : Option Sl) (p : Pen) : ∀ (cols : List Nat) (s : Nat) (x3 : Option Sl), s < m.es.length → (∀ c ∈ cols, c < m.C) →
    ∃ x3', forGo (gN 3) (sAsg (eBin ixD (eBin ixD (eVar 0) (eLook 2)) (eLook 3)) (gN 2)) (nInts cols) [vd (rowsD m.rows), x1, I_ s, x3] p = .nx [vd (rowsD m.rows), x1, I_ (run m.rows s cols), x3'] p
  | [], s, x3, _, _ => ⟨x3, rfl⟩
  | c :: cols, s, x3, hs, hc => by
    obtain ⟨r, r1, r2, r3⟩ := st_at h hs (hc c (by simp))
    obtain ⟨x3', ih⟩ := led_go h x1 p cols (st m.rows s c) (I_ c) r3 fun x hx => hc x (by simp [hx])
    exact ⟨x3', (forGo_nx (e1 := [vd (rowsD m.rows), x1, I_ s, I_ c]) rfl (sAsg_ok (eBin_ok (eBin_ok (eVar_v rfl) (eLook_v rfl) (lstL _ r1)) (eLook_v rfl) (nxL r2)) rfl)).trans ih⟩
theorem led_n (h : m.Ok) {cols : List Nat} (hc : ∀ c ∈ cols, c < m.C) (p : Pen) : F__law_led [rowsD m.rows, .lst (nInts cols)] p = .ok (.int ((run m.rows 0 cols : Nat) : Int)) p := by
  obtain ⟨x3, q⟩ := led_go h (vd (.lst (nInts cols))) p cols 0 none (by have := h.es; omega) hc
  unfold F__law_led B__law_led
  refine mkF_rt (e' := [vd (rowsD m.rows), vd (.lst (nInts cols)), I_ (run m.rows 0 cols), x3]) [vd (rowsD m.rows), vd (.lst (nInts cols)), none, none] rfl ?_
  exact (sSeq_nx (e' := [vd (rowsD m.rows), vd (.lst (nInts cols)), I_ 0, none]) (p' := p) (sAsg_ok eC_ok rfl)).trans ((sSeq_nx (sFor_ok (iAny_l (eVar_v rfl)) q)).trans (sRet_ok (eVar_v rfl)))
def takes (m : Mc) (cols : List Nat) : Bool := decide (m.es.getD (run m.rows 0 cols) 0 = 1)
theorem end_at {m : Mc} {s : Nat} (hs : s < m.es.length) : m.es[s]? = some (m.es.getD s 0) := by
  rw [List.getD_eq_getElem?_getD, List.getElem?_eq_getElem hs]
  rfl
theorem eq_nat (i j : Nat) : eqD (.int (i : Int)) (.int (j : Int)) = some (.bl (decide (i = j))) := by
  by_cases z : i = j
  · subst z
    rw [eq_t]
    simp
  · rw [eq_f (by omega)]
    simp [z]
theorem taken_n (h : m.Ok) {W : Nat} {ns : List Nat} (hN : Nums m.b ns W) (hl : ns.length = m.ls.length) (p : Pen) : F__law_is_taken [.lst (nInts m.es), rowsD m.rows, .lst (nInts ns), .int (m.b : Int)] p = .ok (.bl (takes m (colsN hN))) p := by
  have hc : ∀ c ∈ colsN hN, c < m.C := fun c z => by have := cols_lt hN c z; rw [hl] at this; exact this
  unfold F__law_is_taken B__law_is_taken
  refine mkF_rt (e' := [vd (.lst (nInts m.es)), vd (rowsD m.rows), vd (.lst (nInts ns)), I_ m.b]) [vd (.lst (nInts m.es)), vd (rowsD m.rows), vd (.lst (nInts ns)), I_ m.b] rfl ?_
  exact sRet_ok (eBin_ok (eBin_ok (eVar_v rfl) (eCall_ok (aCons_ok (eVar_v rfl) (aCons_ok (eCall_ok (aCons_ok (eVar_v rfl) (aCons_ok (eVar_v rfl) aNil_ok)) (law_columns_n hN p)) aNil_ok)) (led_n h hc p)) (nxL (end_at (run_lt h _ 0 (by have := h.es; omega) hc)))) eC_ok (eq_nat _ 1))
theorem RowD.seq {ds : List Nat} {d : D} (h : RowD ds d) : SeqD (nInts ds) d := by cases h <;> constructor
theorem SeqD.row {ds : List Nat} {d : D} (h : SeqD (nInts ds) d) : RowD ds d := by cases h <;> constructor
theorem accepts_n (h : m.Ok) {W : Nat} {ns : List Nat} (hN : Nums m.b ns W) (hl : ns.length = m.ls.length) {d : D} (hd : SeqD (nInts ns) d) (p : Pen) : F_accepts [m.d, d] p = .ok (.bl (takes m (colsN hN))) p := by
  have hc : ∀ c ∈ colsN hN, c < m.C := fun c z => by have := cols_lt hN c z; rw [hl] at this; exact this
  have hf := hN.len
  have lnL : lenD (.tup (m.ls.map D.str)) = some (.int (m.ls.length : Int)) := by rw [o_lenT, List.length_map]
  have lnd : lenD d = some (.int (m.ls.length : Int)) := by rw [hd.len, List.length_map, hl]
  have a1 : F_are_numbers [d, .int (m.ls.length : Int)] p = .ok (.bl true) p := by
    unfold F_are_numbers B_are_numbers
    refine mkF_rt (e' := [vd d, I_ m.ls.length, none]) [vd d, I_ m.ls.length, none] rfl (sRet_ok (eAnd_t (eCall_ok (aCons_ok (eVar_v rfl) aNil_ok) (is_row_s hd p)) rfl (eAnd_t (eBin_ok (eUn_ok (eLook_v rfl) lnd) (eLook_v rfl) (eq_t _)) rfl ?_)))
    refine all_comp (ds := nInts ns) (hd.any (eVar_v rfl)) (by rw [List.length_map]; omega) fun x hx => ?_
    obtain ⟨n, hn, rfl⟩ := List.mem_map.mp hx
    exact ⟨_, _, rfl, rfl, _, eAnd_t (eCall_ok (aCons_ok (eVar_v rfl) aNil_ok) (is_int_n _ p)) rfl (eBin_ok (eVar_v rfl) eC_ok (ge_t (by omega)))⟩
  have a2 : F_takes_numbers [m.d, d] p = .ok (.bl (takes m (colsN hN))) p := by
    unfold F_takes_numbers B_takes_numbers
    refine mkF_rt (e' := [vd m.d, vd d]) [vd m.d, vd d] rfl ?_
    exact sRet_ok (eBin_ok (eBin_ok (eUn_ok (eVar_v rfl) f_ends) (eCall_ok (aCons_ok (eVar_v rfl) (aCons_ok (eCall_ok (aCons_ok (eVar_v rfl) (aCons_ok (eUn_ok (eVar_v rfl) f_base) aNil_ok)) (columns_of_n hN (SeqD.row hd) p)) aNil_ok)) (reached_n h hc .tup p)) (nx (end_at (run_lt h _ 0 (by have := h.es; omega) hc)))) eC_ok (eq_nat _ 1))
  unfold F_accepts B_accepts
  refine mkF_rt (e' := [vd m.d, vd d]) [vd m.d, vd d] rfl ?_
  exact (sSeq_nx (sExpr_ok (eCall_ok (aCons_ok (eVar_v rfl) aNil_ok) (need_m p)))).trans ((sSeq_nx (sIf_fn (tmNot_ok (c := true) (tmE_ok (eCall_ok (aCons_ok (eVar_v rfl) (aCons_ok (eUn_ok (eUn_ok (eVar_v rfl) f_letters) lnL) aNil_ok)) a1) rfl)))).trans (sRet_ok (eCall_ok (aCons_ok (eVar_v rfl) (aCons_ok (eVar_v rfl) aNil_ok)) a2)))
theorem writing_n (h : m.Ok) {cols : List Nat} (hl : cols.length ≤ 1000) (hc : ∀ c ∈ cols, c < m.C) {d : D} (hd : SeqD (nInts cols) d) (p : Pen) : F_accepts_writing [m.d, d] p = .ok (.bl (takes m cols)) p := by
  have hb := h.hb
  have hC := h.C
  unfold Mc.C at hC
  have pw : m.b ^ m.ls.length < 2 ^ 60 := Nat.lt_of_le_of_lt hC (by decide)
  have lnL : lenD (.tup (m.ls.map D.str)) = some (.int (m.ls.length : Int)) := by rw [o_lenT, List.length_map]
  unfold F_accepts_writing B_accepts_writing
  refine mkF_rt (e' := [vd m.d, vd d, I_ m.C, none]) [vd m.d, vd d, none, none] rfl ?_
  refine (sSeq_nx (sExpr_ok (eCall_ok (aCons_ok (eVar_v rfl) aNil_ok) (need_m p)))).trans ?_
  refine (sSeq_nx (e' := [vd m.d, vd d, I_ m.C, none]) (p' := p) (sAsg_ok (eCall_ok (aCons_ok (eUn_ok (eVar_v rfl) f_base) (aCons_ok (eUn_ok (eUn_ok (eVar_v rfl) f_letters) lnL) aNil_ok)) (power_n (by omega) pw p)) rfl)).trans ?_
  have c : eUn allD (eF (fComp [] (iAny (eVar 1)) [3] (gN 3) (tmYes) (eAnd (eCall F_is_integer (aCons (eVar 3) (aNil)) []) (eChain leD ltD (eC (.int 0)) (eVar 3) (eLook 2))))) [vd m.d, vd d, I_ m.C, none] p = .ok (.bl true) [vd m.d, vd d, I_ m.C, none] p :=
    all_comp (ds := nInts cols) (hd.any (eVar_v rfl)) (by rw [List.length_map]; omega) fun x hx => by
      obtain ⟨n, hn, rfl⟩ := List.mem_map.mp hx
      exact ⟨_, _, rfl, rfl, _, eAnd_t (eCall_ok (aCons_ok (eVar_v rfl) aNil_ok) (is_int_n _ p)) rfl (eChain_t eC_ok (eVar_v rfl) (le_t (by omega)) (eLook_v rfl) (lt_t (by have := hc n hn; omega)))⟩
  refine (sSeq_nx (sIf_fn (tmOr_f (tmNot_ok (c := true) (tmE_ok (eCall_ok (aCons_ok (eVar_v rfl) aNil_ok) (is_row_s hd p)) rfl)) (tmNot_ok (c := true) (tmE_ok c rfl))))).trans ?_
  exact sRet_ok (eBin_ok (eBin_ok (eUn_ok (eVar_v rfl) f_ends) (eCall_ok (aCons_ok (eVar_v rfl) (aCons_ok (eVar_v rfl) aNil_ok)) (reached_n h hc hd p)) (nx (end_at (run_lt h _ 0 (by have := h.es; omega) hc)))) eC_ok (eq_nat _ 1))
theorem run_zeros (h : m.Ok) (cols : List Nat) : ∀ k, run m.rows 0 (List.replicate k 0 ++ cols) = run m.rows 0 cols
  | 0 => rfl
  | k + 1 => by
    rw [List.replicate_succ, List.cons_append]
    show run m.rows (st m.rows 0 0) (List.replicate k 0 ++ cols) = _
    rw [h.nul]
    exact run_zeros h cols k
end
end K09

namespace K09
open PySem PySem.Spec L2 Pd PdSet
theorem listed_s {n : Nat} {p : Pen} (h : PenOk n p) (hn : n ≤ 100000000) {ys : List D} {d : D} (r : SeqD ys d) : ∃ d' p', F__law_listed [.pen, d] p = .ok d' p' ∧ SeqD ys d' ∧ PenOk (n + 1) p' := by
  obtain ⟨x, p1, a1, b1, c1⟩ := drawN (many := 2) h (by omega) (by decide) (by decide)
  have a1 : F__law_draw [.pen, .int 2] p = .ok (.int (x : Int)) p1 := a1
  have t : ∀ c, eqD (.int (x : Int)) (.int 0) = some (.bl c) → tmB (eBin eqD (eCall F__law_draw (aCons (eVar 0) (aCons (eC (.int 2)) (aNil))) []) (eC (.int 0))) [vd .pen, vd d] p = .ok c [vd .pen, vd d] p1 := fun c hc => tmB_ok (eBin_ok (eCall_ok (aCons_ok (eVar_v rfl) (aCons_ok eC_ok aNil_ok)) a1) eC_ok hc)
  by_cases z : x = 0
  · refine ⟨.lst ys, p1, ?_, .lst, c1⟩
    subst z
    unfold F__law_listed B__law_listed
    exact mkF_rt (e' := [vd .pen, vd d]) [vd .pen, vd d] rfl (sRet_ok (eIf_t (t true (eq_t 0)) (eF_ok (r.listF (eLook_v rfl)))))
  · refine ⟨.tup ys, p1, ?_, .tup, c1⟩
    unfold F__law_listed B__law_listed
    exact mkF_rt (e' := [vd .pen, vd d]) [vd .pen, vd d] rfl (sRet_ok (eIf_f (t false (eq_f (by omega))) (eUn_ok (eLook_v rfl) r.tupD)))
def LS : List (List Str) := [["x"], ["n"], ["a", "b"], []]
theorem ls_ok : ∀ ls ∈ LS, LsOk ls := by
  intro ls h
  unfold LS at h
  simp only [List.mem_cons, List.not_mem_nil, or_false] at h
  have nmx : ∀ x ∈ (["x", "n", "a", "b"] : List Str), ∀ p, F_is_name [.str x] p = .ok (.bl true) p := by
    intro x hx p
    simp only [List.mem_cons, List.not_mem_nil, or_false] at hx
    rcases hx with rfl | rfl | rfl | rfl <;> kernel_rfl
  rcases h with rfl | rfl | rfl | rfl
  · exact ⟨fun x hx => nmx x (by simp at hx ⊢; simp [hx]), by decide, by kernel_rfl⟩
  · exact ⟨fun x hx => nmx x (by simp at hx ⊢; simp [hx]), by decide, by kernel_rfl⟩
  · exact ⟨fun x hx => nmx x (by simp at hx ⊢; rcases hx with hx | hx <;> simp [hx]), by decide, by kernel_rfl⟩
  · exact ⟨fun x hx => (List.not_mem_nil hx).elim, by decide, by kernel_rfl⟩
abbrev lsD (ls : List Str) : D := .lst (ls.map D.str)
theorem frame_n {n : Nat} {p : Pen} (h : PenOk n p) (hn : n ≤ 100000000) : ∃ (b : Nat) (ls : List Str) (p' : Pen), F__law_frame [.pen] p = .ok (.tup [.int (b : Int), lsD ls]) p' ∧ (2 ≤ b ∧ b ≤ 4) ∧ ls ∈ LS ∧ b ^ ls.length ≤ 32 ∧ PenOk (n + 2) p' := by
  obtain ⟨r, p1, a1, b1, c1⟩ := drawN (many := 3) h (by omega) (by decide) (by decide)
  have a1 : F__law_draw [.pen, .int 3] p = .ok (.int (r : Int)) p1 := a1
  generalize hB : 2 + r = B
  have eB : (2 : Int) + (r : Int) = ((B : Nat) : Int) := by omega
  have hB4 : 2 ≤ B ∧ B ≤ 4 := by omega
  have fin : ∀ {ys : List (List Str)} {q : EM}, (∀ e p, q e p = .ok (.lst (ys.map lsD)) e p) → (∀ x ∈ ys, x ∈ LS ∧ B ^ x.length ≤ 32) → 0 < ys.length → ys.length ≤ 10 → tmB (eBin ltD (eVar 1) (eC (.int 4))) [vd .pen, I_ B, none] p1 = .ok (decide (B < 4)) [vd .pen, I_ B, none] p1 →
      eIf (tmB (eBin ltD (eVar 1) (eC (.int 4)))) (eF (fLst (aCons (eF (fLst (aCons (eC (.str "x")) (aNil)))) (aCons (eF (fLst (aCons (eC (.str "x")) (aNil)))) (aCons (eF (fLst (aCons (eC (.str "a")) (aCons (eC (.str "b")) (aNil))))) (aCons (eF (fLst (aNil))) (aNil))))))) (eF (fLst (aCons (eF (fLst (aCons (eC (.str "x")) (aNil)))) (aCons (eF (fLst (aCons (eC (.str "n")) (aNil)))) (aCons (eF (fLst (aNil))) (aNil)))))) [vd .pen, I_ B, none] p1 = q [vd .pen, I_ B, none] p1 →
      ∃ (b : Nat) (ls : List Str) (p' : Pen), F__law_frame [.pen] p = .ok (.tup [.int (b : Int), lsD ls]) p' ∧ (2 ≤ b ∧ b ≤ 4) ∧ ls ∈ LS ∧ b ^ ls.length ≤ 32 ∧ PenOk (n + 2) p' := by
    intro ys q hq hy h0 h1 _ he
    obtain ⟨_, x, p2, a2, b2, c2⟩ := pick (xs := ys.map lsD) c1 (by omega) (by rw [List.length_map]; exact h0) (by rw [List.length_map]; omega)
    obtain ⟨ls, hls, rfl⟩ := List.mem_map.mp (List.mem_of_getElem? b2)
    refine ⟨B, ls, p2, ?_, hB4, (hy ls hls).1, (hy ls hls).2, c2⟩
    unfold F__law_frame B__law_frame
    refine mkF_rt (e' := [vd .pen, I_ B, vd (lsD ls)]) [vd .pen, none, none] rfl ?_
    refine (sSeq_nx (e' := [vd .pen, I_ B, none]) (p' := p1) (sAsg_ok (eBin_ok eC_ok (eCall_ok (aCons_ok (eVar_v rfl) (aCons_ok eC_ok aNil_ok)) a1) (by rw [o_add, eB])) rfl)).trans ?_
    refine (sSeq_nx (e' := [vd .pen, I_ B, vd (lsD ls)]) (p' := p2) (sAsg_ok (eCall_ok (aCons_ok (eVar_v rfl) (aCons_ok (he.trans (hq _ _)) aNil_ok)) a2) rfl)).trans ?_
    exact sRet_ok (eTup_ok (aCons_ok (eVar_v rfl) (aCons_ok (eF_ok (SeqD.lst.listF (eLook_v rfl))) aNil_ok)) (by simp))
  by_cases z : B < 4
  · have t : tmB (eBin ltD (eVar 1) (eC (.int 4))) [vd .pen, I_ B, none] p1 = .ok true [vd .pen, I_ B, none] p1 := tmB_ok (eBin_ok (eVar_v rfl) eC_ok (lt_t (by omega)))
    have e9 : ∀ k, k ≤ 2 → B ^ k ≤ 32 := fun k hk => by
      have a1 : B ^ k ≤ 3 ^ k := Nat.pow_le_pow_left (by omega) k
      have a2 : 3 ^ k ≤ 3 ^ 2 := Nat.pow_le_pow_right (by omega) hk
      omega
    refine fin (ys := [["x"], ["x"], ["a", "b"], []]) (q := eC (.lst ([(["x"] : List Str), ["x"], ["a", "b"], []].map lsD))) (fun e p => rfl) (fun x hx => ?_) (by decide) (by decide) (by rw [t]; simp [z]) (eIf_t t rfl)
    simp only [List.mem_cons, List.not_mem_nil, or_false] at hx
    rcases hx with rfl | rfl | rfl | rfl
    · exact ⟨by simp [LS], e9 _ (by decide)⟩
    · exact ⟨by simp [LS], e9 _ (by decide)⟩
    · exact ⟨by simp [LS], e9 _ (by decide)⟩
    · exact ⟨by simp [LS], e9 _ (by decide)⟩
  · have t : tmB (eBin ltD (eVar 1) (eC (.int 4))) [vd .pen, I_ B, none] p1 = .ok false [vd .pen, I_ B, none] p1 := tmB_ok (eBin_ok (eVar_v rfl) eC_ok (lt_f (by omega)))
    have b4 : B = 4 := by omega
    refine fin (ys := [["x"], ["n"], []]) (q := eC (.lst ([(["x"] : List Str), ["n"], []].map lsD))) (fun e p => rfl) (fun x hx => ?_) (by decide) (by decide) (by rw [t]; simp [z]) (eIf_f t rfl)
    rw [b4]
    simp only [List.mem_cons, List.not_mem_nil, or_false] at hx
    rcases hx with rfl | rfl | rfl
    · exact ⟨by simp [LS], by decide⟩
    · exact ⟨by simp [LS], by decide⟩
    · exact ⟨by simp [LS], by decide⟩
abbrev ED (b k M C : Nat) (x6 x7 x8 : Option Sl) : Ev := [vd .pen, I_ b, I_ k, I_ 5, I_ M, I_ C, x6, x7, x8]
theorem drawn_n {n : Nat} {p : Pen} {b k : Nat} (h : PenOk n p) (hn : n ≤ 100000000) (hb : 2 ≤ b ∧ b ≤ 4) (hk : k ≤ 2) : ∃ (es : List Nat) (rows : List (List Nat)) (p' : Pen), F__law_drawn [.pen, .int (b : Int), .int (k : Int), .int 5] p = .ok (.tup [.lst (nInts es), rowsD rows]) p' ∧
    rows.length = es.length ∧ (1 ≤ es.length ∧ es.length ≤ 5) ∧ (∀ e ∈ es, e ≤ 1) ∧ (∀ r ∈ rows, r.length = b ^ k ∧ ∀ x ∈ r, x < es.length) ∧ st rows 0 0 = 0 ∧ PenOk (n + 1000) p' := by
  obtain ⟨r2, p2, a2, b2, c2⟩ := drawN (many := 5) h (by omega) (by decide) (by decide)
  have a2 : F__law_draw [.pen, .int 5] p = .ok (.int (r2 : Int)) p2 := a2
  generalize hM : 1 + r2 = M
  have e2 : (1 : Int) + (r2 : Int) = (M : Int) := by omega
  have C16 : b ^ k ≤ 16 := by
    have q1 : b ^ k ≤ 4 ^ k := Nat.pow_le_pow_left hb.2 k
    have q2 : 4 ^ k ≤ 4 ^ 2 := Nat.pow_le_pow_right (by omega) hk
    omega
  have C1 : 1 ≤ b ^ k := Nat.pow_pos (by omega)
  have mm : mulD3 (.int (b : Int)) (.int (b : Int)) = some (.int ((b * b : Nat) : Int)) := o_mulB (Nat.lt_of_le_of_lt hb.2 (by decide)) (Nat.lt_of_le_of_lt hb.2 (by decide))
  have mm3 : mulD3 (.int ((b * b : Nat) : Int)) (.int (b : Int)) = some (.int ((b * b * b : Nat) : Int)) := o_mulB (Nat.lt_of_le_of_lt (Nat.mul_le_mul hb.2 hb.2) (by decide)) (Nat.lt_of_le_of_lt hb.2 (by decide))
  have ixk : ixD (.lst [.int 1, .int (b : Int), .int ((b * b : Nat) : Int), .int ((b * b * b : Nat) : Int)]) (.int (k : Int)) = some (.int ((b ^ k : Nat) : Int)) := by
    refine ixD_lst (by omega) ?_
    rw [Int.toNat_natCast]
    obtain rfl | rfl | rfl : k = 0 ∨ k = 1 ∨ k = 2 := by omega
    · rw [Nat.pow_zero]; rfl
    · rw [Nat.pow_one]; rfl
    · rw [Nat.pow_two]; rfl
  have s1 : sAsg (eTup (aCons (eBin addD (eC (.int 1)) (eCall F__law_draw (aCons (eVar 0) (aCons (eVar 3) (aNil))) [])) (aCons (eBin ixD (eF (fLst (aCons (eC (.int 1)) (aCons (eVar 1) (aCons (eBin mulD3 (eVar 1) (eLook 1)) (aCons (eBin mulD3 (eBin mulD3 (eVar 1) (eLook 1)) (eLook 1)) (aNil))))))) (eLook 2)) (aNil)))) (gT 2 (gConsD (gN 4) (gConsD (gN 5) (gNilD)))) [vd .pen, I_ b, I_ k, I_ 5, none, none, none, none, none] p =
      .nx (ED b k M (b ^ k) none none none) p2 :=
    sAsg_ok (eTup_ok (aCons_ok (eBin_ok eC_ok (eCall_ok (aCons_ok (eVar_v rfl) (aCons_ok (eVar_v rfl) aNil_ok)) a2) (by rw [o_add, e2])) (aCons_ok (eBin_ok (eF_ok (fLst_ok (aCons_ok eC_ok (aCons_ok (eVar_v rfl) (aCons_ok (eBin_ok (eVar_v rfl) (eLook_v rfl) mm) (aCons_ok (eBin_ok (eBin_ok (eVar_v rfl) (eLook_v rfl) mm) (eLook_v rfl) mm3) aNil_ok)))) (by simp))) (eLook_v rfl) ixk) aNil_ok)) (by simp)) rfl
  have hrow : ∀ (m : Nat) (q : Pen) (j : D), m + 16 ≤ 1000000000 → PenOk m q → ∃ ds q', fComp [] (iRange1 (aCons (eVar 5) (aNil))) [8] (gN 8) (tmYes) (eCall F__law_draw (aCons (eVar 0) (aCons (eVar 4) (aNil))) [])
      (ED b k M (b ^ k) none (vd j) none) q = .ok ds (ED b k M (b ^ k) none (vd j) none) q' ∧ (∃ l : List Nat, ds = nInts l ∧ l.length = b ^ k ∧ ∀ x ∈ l, x < M) ∧ PenOk (m + 16) q' := by
    intro m q j hm hq
    obtain ⟨ys, q', k1, k2, k3, k4⟩ := compGo_q (g := gN 8) (t := tmYes) (f := eCall F__law_draw (aCons (eVar 0) (aCons (eVar 4) (aNil))) []) (eb := mask [8] (ED b k M (b ^ k) none (vd j) none))
      (Q := fun d => ∃ x : Nat, d = .int (x : Int) ∧ x < M) (N := 1000000000) (c := 1) ((List.range (b ^ k)).map fun i : Nat => .int (i : Int)) m q (fun x _ m' q1 hm' hq' => by
        obtain ⟨r, q2, z1, z2, z3⟩ := drawN (many := M) hq' (by omega) (by omega) (Nat.lt_of_le_of_lt (show M ≤ 60 by omega) (by decide))
        exact ⟨_, _, .int (r : Int), ED b k M (b ^ k) none (vd j) (vd x), q2, rfl, rfl, eCall_ok (aCons_ok (eVar_v rfl) (aCons_ok (eVar_v rfl) aNil_ok)) z1, ⟨r, rfl, z2⟩, z3⟩) (by rw [List.length_map, List.length_range]; omega) hq
    rw [List.length_map, List.length_range] at k2 k4
    obtain ⟨l, z1, z2, z3⟩ := nInts_of k3
    refine ⟨ys, q', ?_, ⟨l, z1, by omega, z3⟩, k4.mono (by omega)⟩
    unfold fComp
    have hi : iRange1 (aCons (eVar 5) (aNil)) (freeze [] (ED b k M (b ^ k) none (vd j) none)) q = .ok ((List.range (b ^ k)).map fun i : Nat => .int (i : Int)) (ED b k M (b ^ k) none (vd j) none) q := range_n2 _ (by omega) (eVar_v rfl)
    rw [hi]
    show (if small ((List.range (b ^ k)).map fun i : Nat => D.int (i : Int)).length then _ else _) = _
    rw [if_pos (by rw [List.length_map, List.length_range]; show b ^ k ≤ _; omega), k1]
  obtain ⟨rows, p4, g1, g2, g3, g4⟩ := compGoF_q (g := gN 7) (t := tmYes) (f := fComp [] (iRange1 (aCons (eVar 5) (aNil))) [8] (gN 8) (tmYes) (eCall F__law_draw (aCons (eVar 0) (aCons (eVar 4) (aNil))) [])) (eb := mask [7] (ED b k M (b ^ k) none none none))
    (Q := fun d => ∃ l : List Nat, d = nInts l ∧ l.length = b ^ k ∧ ∀ x ∈ l, x < M) (N := 1000000000) (c := 16) ((List.range M).map fun i : Nat => .int (i : Int)) (n + 1) p2 (fun x _ m q hm hq => by
      obtain ⟨ds, q', z1, z2, z3⟩ := hrow m q x hm hq
      exact ⟨_, _, ds, _, q', rfl, rfl, z1, z2, z3⟩) (by rw [List.length_map, List.length_range]; omega) c2
  rw [List.length_map, List.length_range] at g2 g4
  obtain ⟨R, y1, y2, y3⟩ := rows_of g3
  subst y1
  have hRl : R.length = M := by rw [List.length_map] at g2; exact g2
  have s4 : sCompF [] (iRange1 (aCons (eVar 4) (aNil))) [7] (gN 7) (tmYes) (fComp [] (iRange1 (aCons (eVar 5) (aNil))) [8] (gN 8) (tmYes) (eCall F__law_draw (aCons (eVar 0) (aCons (eVar 4) (aNil))) [])) 6 (ED b k M (b ^ k) none none none) p2 =
      .nx (ED b k M (b ^ k) (some (.own2 (R.map nInts))) none none) p4 := by
    unfold sCompF
    have hi : iRange1 (aCons (eVar 4) (aNil)) (freeze [] (ED b k M (b ^ k) none none none)) p2 = .ok ((List.range M).map fun i : Nat => .int (i : Int)) (ED b k M (b ^ k) none none none) p2 := range_n2 _ (by omega) (eVar_v rfl)
    rw [hi]
    dsimp only [toS]
    rw [g1]
    dsimp only
    rw [if_pos (by show (R.map nInts).length ≤ _; rw [List.length_map]; omega)]
    rfl
  have hlr : 0 < R.length := by omega
  obtain ⟨w1, w2⟩ := y3 _ (List.getElem_mem hlr)
  generalize hR' : R.set 0 (R[0].set 0 0) = R'
  have s5 : sPut2 6 (eC (.int 0)) (eC (.int 0)) (fun _ => some 0) (ED b k M (b ^ k) (some (.own2 (R.map nInts))) none none) p4 = .nx (ED b k M (b ^ k) (some (.own2 (R'.map nInts))) none none) p4 := by
    have i1 : L2.ixN (R.map nInts).length 0 = some 0 := by
      unfold L2.ixN
      rw [List.length_map, if_pos (by omega), if_pos (by omega)]
      rfl
    have i2 : (R.map nInts)[0]? = some (nInts R[0]) := by rw [List.getElem?_map, List.getElem?_eq_getElem hlr]; rfl
    have i3 : L2.ixN (nInts R[0]).length 0 = some 0 := by
      unfold L2.ixN
      rw [List.length_map, if_pos (by omega), if_pos (by omega)]
      rfl
    have i4 : (R.map nInts).set 0 ((nInts R[0]).set 0 (.int 0)) = R'.map nInts := by
      rw [← hR', List.map_set]
      congr 1
      exact List.map_set.symm
    show (match ((L2.ixN (R.map nInts).length 0).bind fun k => ((R.map nInts)[k]?).bind fun xs => (L2.ixN xs.length 0).map fun l => (k, xs, l)) with | some (k, xs, l) => SR.nx _ p4 | none => .bad) = _
    rw [i1]
    dsimp only [Option.bind]
    rw [i2]
    dsimp only [Option.bind]
    rw [i3]
    dsimp only [Option.map]
    rw [i4]
    rfl
  obtain ⟨cs, p6, a6, b6, c6, d6⟩ := compGo_q (g := gN 7) (t := tmYes) (f := eCall F__law_draw (aCons (eVar 0) (aCons (eC (.int 2)) (aNil))) []) (eb := mask [7] (ED b k M (b ^ k) (some (.own2 (R'.map nInts))) none none))
    (Q := fun d => ∃ x : Nat, d = .int (x : Int) ∧ x < 2) (N := 1000000000) (c := 1) ((List.range M).map fun i : Nat => .int (i : Int)) _ p4 (fun x _ m' q1 hm' hq' => by
      obtain ⟨r, q2, z1, z2, z3⟩ := drawN (many := 2) hq' (by omega) (by omega) (by decide)
      have z1 : F__law_draw [.pen, .int 2] q1 = .ok (.int (r : Int)) q2 := z1
      exact ⟨_, _, .int (r : Int), ED b k M (b ^ k) none (vd x) none, q2, rfl, rfl, eCall_ok (aCons_ok (eVar_v rfl) (aCons_ok eC_ok aNil_ok)) z1, ⟨r, rfl, z2⟩, z3⟩) (by rw [List.length_map, List.length_range]; omega) g4
  rw [List.length_map, List.length_range] at b6 d6
  obtain ⟨cd, z1, z2, z3⟩ := nInts_of c6
  subst z1
  have hC : fComp [] (iRange1 (aCons (eVar 4) (aNil))) [7] (gN 7) (tmYes) (eCall F__law_draw (aCons (eVar 0) (aCons (eC (.int 2)) (aNil))) []) (ED b k M (b ^ k) (some (.own2 (R'.map nInts))) none none) p4 = .ok (nInts cd) (ED b k M (b ^ k) (some (.own2 (R'.map nInts))) none none) p6 := by
    unfold fComp
    have hi : iRange1 (aCons (eVar 4) (aNil)) (freeze [] (ED b k M (b ^ k) (some (.own2 (R'.map nInts))) none none)) p4 = .ok ((List.range M).map fun i : Nat => .int (i : Int)) (ED b k M (b ^ k) (some (.own2 (R'.map nInts))) none none) p4 := range_n2 _ (by omega) (eVar_v rfl)
    rw [hi]
    dsimp only [Res.bind]
    rw [if_pos (by rw [List.length_map, List.length_range]; show M ≤ _; omega), a6]
  have lR' : R'.length = M := by rw [← hR', List.length_set]; exact hRl
  have hcd : cd.length = M := by omega
  refine ⟨cd, R', p6, ?_, by omega, by omega, fun e he => by have := z3 e he; omega, ?_, ?_, d6.mono (by omega)⟩
  · unfold F__law_drawn B__law_drawn
    refine mkF_rt (e' := ED b k M (b ^ k) (vd (.lst ((R'.map nInts).map D.lst))) none none) [vd .pen, I_ b, I_ k, I_ 5, none, none, none, none, none] rfl ?_
    refine (sSeq_nx s1).trans ((sSeq_nx s4).trans ((sSeq_nx s5).trans (sRet_ok ?_)))
    have ev : eVar2 6 (ED b k M (b ^ k) (some (.own2 (R'.map nInts))) none none) p6 = .ok (rowsD R') (ED b k M (b ^ k) (vd (.lst ((R'.map nInts).map D.lst))) none none) p6 := by
      show Res.ok (D.lst ((R'.map nInts).map D.lst)) _ p6 = _
      rw [List.map_map]
      rfl
    exact eTup_ok (aCons_ok (eF_ok hC) (aCons_ok ev aNil_ok)) (by simp)
  · intro r hr
    rw [← hR'] at hr
    rw [hcd]
    rcases List.mem_or_eq_of_mem_set hr with q | rfl
    · exact y3 r q
    · refine ⟨by rw [List.length_set]; exact w1, fun x hx => ?_⟩
      rcases List.mem_or_eq_of_mem_set hx with q | rfl
      · exact w2 x q
      · omega
  · unfold st
    rw [← hR']
    rw [List.getD_eq_getElem?_getD (l := R.set 0 (R[0].set 0 0)), List.getElem?_set_self hlr, Option.getD_some, List.getD_eq_getElem?_getD, List.getElem?_set_self (by omega), Option.getD_some]
theorem shuf_loop {x1 : Option Sl} : ∀ (js : List D) (L F : List D) (n : Nat) (p : Pen) (x4 : Option Sl), js.length = L.length → F.length + L.length ≤ 1000 → PenOk n p → n + js.length ≤ 1000000000 →
    ∃ F' p' x4', forGo (gN 4) (sAppend 3 (ePop 2 (eCall F__law_draw (aCons (eVar 0) (aCons (eUn lenD (eLook 2)) (aNil))) []))) js [vd .pen, x1, some (.own L), some (.own F), x4] p =
      .nx [vd .pen, x1, some (.own []), some (.own F'), x4'] p' ∧ F'.Perm (F ++ L) ∧ PenOk (n + js.length) p'
  | [], L, F, n, p, x4, hl, _, hp, _ => by
    have : L = [] := List.length_eq_zero_iff.mp hl.symm
    subst this
    exact ⟨F, p, x4, rfl, by simp, hp⟩
  | j :: js, L, F, n, p, x4, hl, hs, hp, hn => by
    rw [List.length_cons] at hl hn
    obtain ⟨r, p1, a1, b1, c1⟩ := drawN (many := L.length) hp (by omega) (by omega) (Nat.lt_of_lt_of_le (show L.length < 1001 by omega) (by decide))
    have hx : L[r]? = some L[r] := List.getElem?_eq_getElem b1
    have hle : (L.eraseIdx r).length = L.length - 1 := List.length_eraseIdx_of_lt b1
    obtain ⟨F', p', x4', k1, k2, k3⟩ := shuf_loop (x1 := x1) js (L.eraseIdx r) (F ++ [L[r]]) (n + 1) p1 (some (.v j)) (by omega) (by simp only [List.length_append, List.length_cons, List.length_nil]; omega) c1 (by omega)
    refine ⟨F', p', x4', ?_, ?_, k3.mono (by rw [List.length_cons]; omega)⟩
    · refine (forGo_nx (e1 := [vd .pen, x1, some (.own L), some (.own F), some (.v j)]) rfl ?_).trans k1
      have hd : eCall F__law_draw (aCons (eVar 0) (aCons (eUn lenD (eLook 2)) (aNil))) [] [vd .pen, x1, some (.own L), some (.own F), some (.v j)] p = .ok (.int (r : Int)) [vd .pen, x1, some (.own L), some (.own F), some (.v j)] p1 :=
        eCall_ok (aCons_ok (eVar_v rfl) (aCons_ok (eUn_ok (eLook_o rfl) (o_lenL _)) aNil_ok)) a1
      have hpop := ePop_ok (j := 2) (xs := L) (ys := L) (e := [vd .pen, x1, some (.own L), some (.own F), some (.v j)]) rfl hd rfl (by omega) hx
      exact sAppend_ok (xs := F) rfl hpop rfl (by omega)
    · refine k2.trans ?_
      rw [List.append_assoc]
      exact List.Perm.append_left F (perm_erase hx)
theorem shuffled_n {n : Nat} {p : Pen} (L : List D) (hl : L.length ≤ 100) (hp : PenOk n p) (hn : n ≤ 100000000) : ∃ F p', F__law_shuffled [.pen, .lst L] p = .ok (.lst F) p' ∧ F.Perm L ∧ PenOk (n + 100) p' := by
  obtain ⟨F, p', x4', k1, k2, k3⟩ := shuf_loop (x1 := vd (.lst L)) ((List.range L.length).map fun k : Nat => .int (k : Int)) L [] n p none (by simp) (by simp; omega) hp (by simp; omega)
  refine ⟨F, p', ?_, by simpa using k2, k3.mono (by simp; omega)⟩
  unfold F__law_shuffled B__law_shuffled
  have s1 : sParL (fList (eLook 1)) (fLst (aNil)) 2 3 [vd .pen, vd (.lst L), none, none, none] p = .nx [vd .pen, vd (.lst L), some (.own L), some (.own []), none] p := rfl
  refine mkF_rt (e' := [vd .pen, vd (.lst L), some (.own []), vd (.lst F), x4']) [vd .pen, vd (.lst L), none, none, none] rfl ?_
  exact (sSeq_nx s1).trans ((sSeq_nx (sFor_ok (range_n2 L.length (by omega) (eUn_ok (eLook_v rfl) (o_lenL _))) k1)).trans (sRet_ok (eVar_o rfl)))
end K09

set_option maxHeartbeats 1000000
namespace K09
open PySem PySem.Spec L2 Pd PdSet
structure BadN (k : Nat) (d : D) (r : Str) : Prop where
  an : ∀ p, F_are_numbers [d, .int (k : Int)] p = .ok (.bl false) p
  rp : reprD d = some (.str r)
  cl : clsD ⟨"BadNumbers", [("value", d)]⟩ cl__law_complaint = some (.tup [.str "numbers", .str r])
  ne : neD (.tup [.str "numbers", .str r]) (.tup [.str "numbers", .str r]) = some (.bl false)
def oddN : Nat → List (D × Str)
  | 0 => [(.non, "None"), (.int 3, "3"), (.lst [.int 0], "[0]"), (.lst [.int 0], "[0]"), (.str "a", "'a'"), (.lst [.str "1"], "['1']")]
  | 1 => [(.non, "None"), (.int 3, "3"), (.lst [.int (-1)], "[-1]"), (.lst [.int 0, .int 0], "[0, 0]"), (.lst [.bl true], "[True]"), (.lst [.str "1", .str "1"], "['1', '1']")]
  | _ => [(.non, "None"), (.int 3, "3"), (.lst [.int (-1), .int (-1)], "[-1, -1]"), (.lst [.int 0, .int 0, .int 0], "[0, 0, 0]"), (.lst [.bl true, .bl true], "[True, True]"), (.lst [.str "1", .str "1", .str "1"], "['1', '1', '1']")]
theorem oddN_ok : ∀ k, k ≤ 2 → ∀ c ∈ oddN k, BadN k c.1 c.2 := by
  intro k hk c hc
  obtain rfl | rfl | rfl : k = 0 ∨ k = 1 ∨ k = 2 := by omega
  all_goals
    unfold oddN at hc
    simp only [List.mem_cons, List.not_mem_nil, or_false] at hc
    rcases hc with rfl | rfl | rfl | rfl | rfl | rfl <;> exact ⟨fun p => by kernel_rfl, by kernel_rfl, by kernel_rfl, by kernel_rfl⟩
def condW : TM := tmOr (tmNot (tmE (eCall F_is_row (aCons (eVar 1) (aNil)) []))) (tmNot (tmE (eUn allD (eF (fComp [] (iAny (eVar 1)) [3] (gN 3) (tmYes) (eAnd (eCall F_is_integer (aCons (eVar 3) (aNil)) []) (eChain leD ltD (eC (.int 0)) (eVar 3) (eLook 2))))))))
structure BadWr (C : Nat) (d : D) (r : Str) : Prop where
  cw : ∀ x0 p, condW [some (.v x0), vd d, I_ C, none] p = .ok true [some (.v x0), vd d, I_ C, none] p
  rp : reprD d = some (.str r)
  cl : clsD ⟨"BadWriting", [("value", d)]⟩ cl__law_complaint = some (.tup [.str "writing", .str r])
  ne : neD (.tup [.str "writing", .str r]) (.tup [.str "writing", .str r]) = some (.bl false)
def oddC (C : Nat) : Str := if C = 1 then "[1]" else if C = 2 then "[2]" else if C = 3 then "[3]" else if C = 4 then "[4]" else if C = 9 then "[9]" else "[16]"
def oddW (C : Nat) : List (D × Str) := [(.non, "None"), (.int 3, "3"), (.lst [.int (-1)], "[-1]"), (.lst [.int (C : Int)], oddC C), (.lst [.bl true], "[True]"), (.lst [.str "0"], "['0']")]
theorem oddW_ok : ∀ C, C ∈ ([1, 2, 3, 4, 9, 16] : List Nat) → ∀ c ∈ oddW C, BadWr C c.1 c.2 := by
  intro C hC c hc
  unfold oddW at hc
  simp only [List.mem_cons, List.not_mem_nil, or_false] at hC hc
  rcases hC with rfl | rfl | rfl | rfl | rfl | rfl <;> rcases hc with rfl | rfl | rfl | rfl | rfl | rfl <;> exact ⟨fun x0 p => by kernel_rfl, by kernel_rfl, by kernel_rfl, by kernel_rfl⟩
section
variable {m : Mc}
theorem accepts_x (h : m.Ok) {d : D} {r : Str} (hd : BadN m.ls.length d r) (p : Pen) : F_accepts [m.d, d] p = .exc ⟨"BadNumbers", [("value", d)]⟩ p := by
  have lnL : lenD (.tup (m.ls.map D.str)) = some (.int (m.ls.length : Int)) := by rw [o_lenT, List.length_map]
  unfold F_accepts B_accepts
  refine mkF_exc (e' := [vd m.d, vd d]) [vd m.d, vd d] rfl ?_
  refine (sSeq_nx (sExpr_ok (eCall_ok (aCons_ok (eVar_v rfl) aNil_ok) (need_m p)))).trans (sSeq_exc ?_)
  exact (sIf_t (tmNot_ok (c := false) (tmE_ok (eCall_ok (aCons_ok (eVar_v rfl) (aCons_ok (eUn_ok (eUn_ok (eVar_v rfl) f_letters) lnL) aNil_ok)) (hd.an p)) rfl))).trans (sRaise_ok (aCons_ok (eVar_v rfl) aNil_ok) rfl)
theorem writing_x (h : m.Ok) {d : D} {r : Str} (hd : BadWr m.C d r) (p : Pen) : F_accepts_writing [m.d, d] p = .exc ⟨"BadWriting", [("value", d)]⟩ p := by
  have hb := h.hb
  have hC := h.C
  unfold Mc.C at hC
  have pw : m.b ^ m.ls.length < 2 ^ 60 := Nat.lt_of_le_of_lt hC (by decide)
  have lnL : lenD (.tup (m.ls.map D.str)) = some (.int (m.ls.length : Int)) := by rw [o_lenT, List.length_map]
  unfold F_accepts_writing B_accepts_writing
  refine mkF_exc (e' := [vd m.d, vd d, I_ m.C, none]) [vd m.d, vd d, none, none] rfl ?_
  refine (sSeq_nx (sExpr_ok (eCall_ok (aCons_ok (eVar_v rfl) aNil_ok) (need_m p)))).trans ?_
  refine (sSeq_nx (e' := [vd m.d, vd d, I_ m.C, none]) (p' := p) (sAsg_ok (eCall_ok (aCons_ok (eUn_ok (eVar_v rfl) f_base) (aCons_ok (eUn_ok (eUn_ok (eVar_v rfl) f_letters) lnL) aNil_ok)) (power_n (by omega) pw p)) rfl)).trans (sSeq_exc ?_)
  exact (sIf_t (hd.cw m.d p)).trans (sRaise_ok (aCons_ok (eVar_v rfl) aNil_ok) rfl)
end
structure BadM (q : D × D × D × D) (why : Str) : Prop where
  br : ∀ p, F_machine_breach [q.1, q.2.1, q.2.2.1, q.2.2.2] p = .ok (.str why) p
  cl : clsD ⟨"BadMachine", [("why", .str why)]⟩ cl__law_complaint = some (.tup [.str "machine", .str why])
  ne : neD (.tup [.str "machine", .str why]) (.tup [.str "machine", .str why]) = some (.bl false)
theorem init_x {q : D × D × D × D} {why : Str} (h : BadM q why) (p : Pen) : I_Machine [q.1, q.2.1, q.2.2.1, q.2.2.2] p = .exc ⟨"BadMachine", [("why", .str why)]⟩ p := by
  have key : B_Machine_init [some (.ins "Machine" []), vd q.1, vd q.2.1, vd q.2.2.1, vd q.2.2.2, none, none] p = .exc ⟨"BadMachine", [("why", .str why)]⟩ [some (.ins "Machine" []), vd q.1, vd q.2.1, vd q.2.2.1, vd q.2.2.2, vd (.str why), none] p := by
    unfold B_Machine_init
    refine (sSeq_nx (e' := [some (.ins "Machine" []), vd q.1, vd q.2.1, vd q.2.2.1, vd q.2.2.2, vd (.str why), none]) (p' := p) (sAsg_ok (eCall_ok (aCons_ok (eVar_v rfl) (aCons_ok (eVar_v rfl) (aCons_ok (eVar_v rfl) (aCons_ok (eVar_v rfl) aNil_ok)))) (h.br p)) rfl)).trans (sSeq_exc ?_)
    exact (sIf_t (tmB_ok (eNotN_c (eVar_v rfl) rfl))).trans (sRaise_ok (aCons_ok (eVar_v rfl) aNil_ok) rfl)
  unfold I_Machine mkI
  show (match B_Machine_init [some (.ins "Machine" []), vd q.1, vd q.2.1, vd q.2.2.1, vd q.2.2.2, none, none] p with
    | .nx e p' => (match (e[0]? : Option (Option Sl)) with
      | some (some (.ins c' fs)) => if c' = "Machine" then IR.ok fs p' else .bad
      | _ => .bad)
    | .exc x _ p' => .exc x p'
    | _ => .bad) = _
  rw [key]
abbrev xL : D := .lst [.str "x"]
theorem x_letters (p : Pen) : F_are_letters [xL, .int 2] p = .ok (.bl true) p := by
  have q := letters_ok (b := 2) (ls := ["x"]) (d := xL) (by decide) (ls_ok _ (by simp [LS])) (by decide) .lst p
  rw [show ([xL, D.int 2] : List D) = [xL, .int ((2 : Nat) : Int)] from rfl]
  exact q
theorem x_pow (p : Pen) : F_power_of [.int 2, .int 1] p = .ok (.int 2) p := by
  have q := power_n (b := 2) (k := 1) (by decide) (by decide) p
  rw [show ([D.int 2, D.int 1] : List D) = [.int ((2 : Nat) : Int), .int ((1 : Nat) : Int)] from rfl, q]
  rfl
section
variable {E S : D} {p : Pen}
theorem pre2 {g : SM} {d : D} {e' : Ev} (hg : g [vd (.int 2), vd xL, vd E, vd S] p = .rt d e' p) : sSeq (sIf (tmOr (tmNot (tmE (eCall F_is_integer (aCons (eVar 0) (aNil)) []))) (tmNot (tmB (eChain leD leD (eC (.int 2)) (eVar 0) (eC (.int 4)))))) (sRet (eC (.str "base"))) (sNext)) (sSeq (sIf (tmNot (tmE (eCall F_are_letters (aCons (eVar 1) (aCons (eVar 0) (aNil))) []))) (sRet (eC (.str "letters"))) (sNext)) g) [vd (.int 2), vd xL, vd E, vd S] p = .rt d e' p :=
  (sSeq_nx (sIf_fn (tmOr_f (tmNot_ok (c := true) (tmE_ok (eCall_ok (aCons_ok (eVar_v rfl) aNil_ok) (is_int_n _ p)) rfl)) (tmNot_ok (c := true) (tmB_ok (eChain_t eC_ok (eVar_v rfl) (le_t (by decide)) eC_ok (le_t (by decide)))))))).trans
    ((sSeq_nx (sIf_fn (tmNot_ok (c := true) (tmE_ok (eCall_ok (aCons_ok (eVar_v rfl) (aCons_ok (eVar_v rfl) aNil_ok)) (x_letters p)) rfl)))).trans hg)
theorem br_E (h : F_are_ends [E] p = .ok (.bl false) p) : F_machine_breach [.int 2, xL, E, S] p = .ok (.str "ends") p := by
  unfold F_machine_breach B_machine_breach
  exact mkF_rt (e' := [vd (.int 2), vd xL, vd E, vd S]) [vd (.int 2), vd xL, vd E, vd S] rfl (pre2 (sSeq_rt ((sIf_t (tmNot_ok (c := false) (tmE_ok (eCall_ok (aCons_ok (eVar_v rfl) aNil_ok) h) rfl))).trans (sRet_ok eC_ok))))
abbrev E4 (E S : D) : Ev := [vd (.int 2), vd xL, vd E, vd S]
theorem arg3 (hl : lenD E = some (.int 2)) : aCons (eVar 3) (aCons (eUn lenD (eLook 2)) (aCons (eCall F_power_of (aCons (eVar 0) (aCons (eUn lenD (eLook 1)) (aNil))) []) (aNil))) (E4 E S) p = .ok [S, .int 2, .int 2] (E4 E S) p := by
  have q : eCall F_power_of (aCons (eVar 0) (aCons (eUn lenD (eLook 1)) (aNil))) [] (E4 E S) p = .ok (.int 2) (E4 E S) p := by
    have z : aCons (eVar 0) (aCons (eUn lenD (eLook 1)) (aNil)) (E4 E S) p = .ok [.int 2, .int 1] (E4 E S) p := rfl
    exact eCall_ok z (x_pow p)
  exact aCons_ok (d := S) (eVar_v rfl) (aCons_ok (d := .int 2) (eUn_ok (d1 := E) (eLook_v rfl) hl) (aCons_ok q aNil_ok))
theorem t_steps (hl : lenD E = some (.int 2)) {c : Bool} (hs : F_are_steps [S, .int 2, .int 2] p = .ok (.bl c) p) : tmE (eCall F_are_steps (aCons (eVar 3) (aCons (eUn lenD (eLook 2)) (aCons (eCall F_power_of (aCons (eVar 0) (aCons (eUn lenD (eLook 1)) (aNil))) []) (aNil)))) []) (E4 E S) p = .ok c (E4 E S) p := by
  have q := eCall_ok (F := F_are_steps) (dds := []) (arg3 (S := S) (p := p) hl) hs
  exact tmE_ok q rfl
theorem br_S (h : F_are_ends [E] p = .ok (.bl true) p) (hl : lenD E = some (.int 2)) (hs : F_are_steps [S, .int 2, .int 2] p = .ok (.bl false) p) : F_machine_breach [.int 2, xL, E, S] p = .ok (.str "steps") p := by
  have t := t_steps hl hs
  unfold F_machine_breach B_machine_breach
  exact mkF_rt (e' := E4 E S) (E4 E S) rfl (pre2 ((sSeq_nx (sIf_fn (tmNot_ok (c := true) (tmE_ok (eCall_ok (aCons_ok (eVar_v rfl) aNil_ok) h) rfl)))).trans (sSeq_rt ((sIf_t (tmNot_ok (c := false) t)).trans (sRet_ok eC_ok)))))
theorem br_0 (h : F_are_ends [E] p = .ok (.bl true) p) (hl : lenD E = some (.int 2)) (hs : F_are_steps [S, .int 2, .int 2] p = .ok (.bl true) p) {r : D} (h1 : ixD S (.int 0) = some r) (h2 : ixD r (.int 0) = some (.int 1)) : F_machine_breach [.int 2, xL, E, S] p = .ok (.str "noughts") p := by
  have t := t_steps hl hs
  unfold F_machine_breach B_machine_breach
  exact mkF_rt (e' := E4 E S) (E4 E S) rfl (pre2 ((sSeq_nx (sIf_fn (tmNot_ok (c := true) (tmE_ok (eCall_ok (aCons_ok (eVar_v rfl) aNil_ok) h) rfl)))).trans
    ((sSeq_nx (sIf_fn (tmNot_ok (c := true) t))).trans (sRet_ok (eIf_f (tmB_ok (eBin_ok (eBin_ok (eBin_ok (eVar_v rfl) eC_ok h1) eC_ok h2) eC_ok (eq_f (by decide)))) eC_ok)))))
theorem abc_pow (p : Pen) : F_power_of [.int 4, .int 3] p = .ok (.int 64) p := by
  have q := power_n (b := 4) (k := 3) (by decide) (by decide) p
  rw [show ([D.int 4, D.int 3] : List D) = [.int ((4 : Nat) : Int), .int ((3 : Nat) : Int)] from rfl, q]
  rfl
theorem br_abc : F_machine_breach [.int 4, .lst [.str "a", .str "b", .str "c"], E, S] p = .ok (.str "letters") p := by
  have nm : ∀ x ∈ (["a", "b", "c"] : List Str), F_is_name [.str x] p = .ok (.bl true) p := by
    intro x hx
    simp only [List.mem_cons, List.not_mem_nil, or_false] at hx
    rcases hx with rfl | rfl | rfl <;> kernel_rfl
  have hL : F_are_letters [.lst [.str "a", .str "b", .str "c"], .int 4] p = .ok (.bl false) p := by
    unfold F_are_letters B_are_letters
    refine mkF_rt (e' := [vd (.lst [.str "a", .str "b", .str "c"]), vd (.int 4), none]) [vd (.lst [.str "a", .str "b", .str "c"]), vd (.int 4), none] rfl ?_
    have c : eUn allD (eF (fComp [] (iAny (eVar 0)) [2] (gN 2) (tmYes) (eCall F_is_name (aCons (eVar 2) (aNil)) []))) [vd (.lst [.str "a", .str "b", .str "c"]), vd (.int 4), none] p = .ok (.bl true) [vd (.lst [.str "a", .str "b", .str "c"]), vd (.int 4), none] p :=
      all_comp (ds := ([("a" : Str), "b", "c"] : List Str).map D.str) (iAny_l (eVar_v rfl)) (by simp) fun x hx => by
        obtain ⟨y, hy, rfl⟩ := List.mem_map.mp hx
        exact ⟨_, _, rfl, rfl, _, eCall_ok (aCons_ok (eVar_v rfl) aNil_ok) (nm y hy)⟩
    refine (sSeq_nx (sIf_fn (tmOr_f (tmNot_ok (c := true) (tmE_ok (eCall_ok (aCons_ok (eVar_v rfl) aNil_ok) (is_row_s .lst p)) rfl)) (tmOr_f (tmB_ok (eBin_ok (eUn_ok (eLook_v rfl) (o_lenL _)) eC_ok (gt_f (by decide)))) (tmNot_ok (c := true) (tmE_ok c rfl)))))).trans ?_
    refine sRet_ok (eAnd_t (d := .bl true) (e1 := [vd (.lst [.str "a", .str "b", .str "c"]), vd (.int 4), none]) (p1 := p) (eBin_ok (eF_ok (SeqD.lst.listF (eLook_v rfl))) (eF_ok (ds := [.str "a", .str "b", .str "c"]) (e1 := [vd (.lst [.str "a", .str "b", .str "c"]), vd (.int 4), none]) (p1 := p) (by kernel_rfl)) (by kernel_rfl)) rfl ?_)
    exact eBin_ok (eCall_ok (aCons_ok (eVar_v rfl) (aCons_ok (eUn_ok (d := .int 3) (eLook_v rfl) rfl) aNil_ok)) (abc_pow p)) eC_ok (le_f (by decide))
  unfold F_machine_breach B_machine_breach
  refine mkF_rt (e' := [vd (.int 4), vd (.lst [.str "a", .str "b", .str "c"]), vd E, vd S]) [vd (.int 4), vd (.lst [.str "a", .str "b", .str "c"]), vd E, vd S] rfl ?_
  exact (sSeq_nx (sIf_fn (tmOr_f (tmNot_ok (c := true) (tmE_ok (eCall_ok (aCons_ok (eVar_v rfl) aNil_ok) (is_int_n _ p)) rfl)) (tmNot_ok (c := true) (tmB_ok (eChain_t eC_ok (eVar_v rfl) (le_t (by decide)) eC_ok (le_t (by decide)))))))).trans
    (sSeq_rt ((sIf_t (tmNot_ok (c := false) (tmE_ok (eCall_ok (aCons_ok (eVar_v rfl) (aCons_ok (eVar_v rfl) aNil_ok)) hL) rfl))).trans (sRet_ok eC_ok)))
end
abbrev e01 : D := .lst [.int 0, .int 1]
def badM : List ((D × D × D × D) × Str) := [((.int 1, .non, .non, .non), "base"), ((.int 5, .non, .non, .non), "base"), ((.bl true, .non, .non, .non), "base"), ((.int 2, .non, .non, .non), "letters"), ((.int 2, .lst [.str "x", .str "x"], .non, .non), "letters"),
  ((.int 2, .lst [.str "y", .str "x"], .non, .non), "letters"), ((.int 4, .lst [.str "a", .str "b", .str "c"], .non, .non), "letters"), ((.int 2, .lst [.str "X"], .non, .non), "letters"), ((.int 2, xL, .lst [], .non), "ends"), ((.int 2, xL, .lst [.int 0, .int 2], .non), "ends"),
  ((.int 2, xL, .lst [.int 0, .bl true], .non), "ends"), ((.int 2, xL, e01, .lst [e01]), "steps"), ((.int 2, xL, e01, .lst [e01, .lst [.int 1]]), "steps"), ((.int 2, xL, e01, .lst [e01, .lst [.int 1, .int 2]]), "steps"),
  ((.int 2, xL, e01, .lst [e01, .lst [.int 1, .bl false]]), "steps"), ((.int 2, xL, e01, .lst [.lst [.int 1, .int 1], .lst [.int 1, .int 0]]), "noughts"), ((.int 2, xL, .non, .lst [.lst [.int 1, .int 1], .lst [.int 1, .int 0]]), "ends")]
theorem badM_ok : ∀ c ∈ badM, BadM c.1 c.2 := by
  intro c hc
  unfold badM at hc
  simp only [List.mem_cons, List.not_mem_nil, or_false] at hc
  rcases hc with rfl | rfl | rfl | rfl | rfl | rfl | rfl | rfl | rfl | rfl | rfl | rfl | rfl | rfl | rfl | rfl | rfl
  · exact ⟨fun p => by kernel_rfl, by kernel_rfl, by kernel_rfl⟩
  · exact ⟨fun p => by kernel_rfl, by kernel_rfl, by kernel_rfl⟩
  · exact ⟨fun p => by kernel_rfl, by kernel_rfl, by kernel_rfl⟩
  · exact ⟨fun p => by kernel_rfl, by kernel_rfl, by kernel_rfl⟩
  · exact ⟨fun p => by kernel_rfl, by kernel_rfl, by kernel_rfl⟩
  · exact ⟨fun p => by kernel_rfl, by kernel_rfl, by kernel_rfl⟩
  · exact ⟨fun p => br_abc, by kernel_rfl, by kernel_rfl⟩
  · exact ⟨fun p => by kernel_rfl, by kernel_rfl, by kernel_rfl⟩
  · exact ⟨fun p => br_E (by kernel_rfl), by kernel_rfl, by kernel_rfl⟩
  · exact ⟨fun p => br_E (by kernel_rfl), by kernel_rfl, by kernel_rfl⟩
  · exact ⟨fun p => br_E (by kernel_rfl), by kernel_rfl, by kernel_rfl⟩
  · exact ⟨fun p => br_S (by kernel_rfl) rfl (by kernel_rfl), by kernel_rfl, by kernel_rfl⟩
  · exact ⟨fun p => br_S (by kernel_rfl) rfl (by kernel_rfl), by kernel_rfl, by kernel_rfl⟩
  · exact ⟨fun p => br_S (by kernel_rfl) rfl (by kernel_rfl), by kernel_rfl, by kernel_rfl⟩
  · exact ⟨fun p => br_S (by kernel_rfl) rfl (by kernel_rfl), by kernel_rfl, by kernel_rfl⟩
  · exact ⟨fun p => br_0 (by kernel_rfl) rfl (by kernel_rfl) (r := .lst [.int 1, .int 1]) rfl rfl, by kernel_rfl, by kernel_rfl⟩
  · exact ⟨fun p => br_E (by kernel_rfl), by kernel_rfl, by kernel_rfl⟩
def rightD : D := .tup [.int 2, xL, e01, .lst [e01, .lst [.int 1, .int 0]]]
structure BadI (d : D) (r : Str) : Prop where
  nm : ∀ p, F_need_machine [d] p = .exc ⟨"BadItem", [("value", d)]⟩ p
  rp : reprD d = some (.str r)
  cl : clsD ⟨"BadItem", [("value", d)]⟩ cl__law_complaint = some (.tup [.str "item", .str r])
  m2 : mulD3 (.lst [.tup [.str "item", .str r]]) (.int 2) = some (.lst [.tup [.str "item", .str r], .tup [.str "item", .str r]])
  eq : eqD (.lst [.tup [.str "item", .str r], .tup [.str "item", .str r]]) (.lst [.tup [.str "item", .str r], .tup [.str "item", .str r]]) = some (.bl true)
def badI : List (D × Str) := [(.non, "None"), (.int 3, "3"), (rightD, "(2, ['x'], [0, 1], [[0, 1], [1, 0]])")]
theorem badI_ok : ∀ c ∈ badI, BadI c.1 c.2 := by
  intro c hc
  unfold badI at hc
  simp only [List.mem_cons, List.not_mem_nil, or_false] at hc
  rcases hc with rfl | rfl | rfl <;> exact ⟨fun p => by kernel_rfl, by kernel_rfl, by kernel_rfl, by kernel_rfl, by kernel_rfl⟩
theorem acc_i {d : D} {r : Str} (h : BadI d r) (u : D) (p : Pen) : F_accepts [d, u] p = .exc ⟨"BadItem", [("value", d)]⟩ p := by
  unfold F_accepts B_accepts
  exact mkF_exc (e' := [vd d, vd u]) [vd d, vd u] rfl (sSeq_exc (sExpr_exc (eCall_exc (aCons_ok (eVar_v rfl) aNil_ok) (h.nm p))))
theorem wri_i {d : D} {r : Str} (h : BadI d r) (u : D) (p : Pen) : F_accepts_writing [d, u] p = .exc ⟨"BadItem", [("value", d)]⟩ p := by
  unfold F_accepts_writing B_accepts_writing
  exact mkF_exc (e' := [vd d, vd u, none, none]) [vd d, vd u, none, none] rfl (sSeq_exc (sExpr_exc (eCall_exc (aCons_ok (eVar_v rfl) aNil_ok) (h.nm p))))
end K09

namespace K09
open PySem PySem.Spec L2 Pd PdSet
noncomputable def stepB : SM := (sSeq (sOwn (fComp [] (iAny (eVar 10)) [19] (gN 19) (tmYes) (eCall F__law_draw (aCons (eVar 1) (aCons (eCall F__law_pick (aCons (eVar 1) (aCons (eF (fLst (aCons (eC (.int 3)) (aCons (eC (.int 50)) (aCons (eC (.int 100000000000000000000)) (aNil)))))) (aNil))) []) (aNil))) [])) 16)
    (sSeq (sAsg (eCall F__law_is_taken (aCons (eVar 11) (aCons (eVar 12) (aCons (eVar 16) (aCons (eVar 9) (aNil))))) []) (gN 17))
    (sSeq (sIf (tmNot (tmE (eCall F__law_is_truth (aCons (eCall F_accepts (aCons (eVar 13) (aCons (eCall F__law_listed (aCons (eVar 1) (aCons (eVar 16) (aNil))) []) (aNil))) []) (aCons (eVar 17) (aNil))) []))) (sRet (eC (.bl false))) (sNext))
    (sSeq (sAsg (eBin addD (eBin mulD3 (eF (fLst (aCons (eC (.int 0)) (aNil)))) (eCall F__law_draw (aCons (eVar 1) (aCons (eC (.int 4)) (aNil))) [])) (eCall F__law_columns (aCons (eVar 16) (aCons (eVar 9) (aNil))) [])) (gN 18))
    (sIf (tmNot (tmE (eCall F__law_is_truth (aCons (eCall F_accepts_writing (aCons (eVar 13) (aCons (eCall F__law_listed (aCons (eVar 1) (aCons (eVar 18) (aNil))) []) (aNil))) []) (aCons (eVar 17) (aNil))) []))) (sRet (eC (.bl false))) (sNext))))))
def oddAN : AM := fLst (aCons (eC .non) (aCons (eC (.int 3)) (aCons (eIf (tmB (eBin neD (eVar 10) (eF (fLst (aNil))))) (eBin mulD3 (eF (fLst (aCons (eUn negD (eC (.int 1))) (aNil)))) (eUn lenD (eLook 10))) (eF (fLst (aCons (eC (.int 0)) (aNil))))) (aCons (eBin mulD3 (eF (fLst (aCons (eC (.int 0)) (aNil)))) (eBin addD (eUn lenD (eLook 10)) (eC (.int 1)))) (aCons (eIf (tmB (eBin neD (eVar 10) (eF (fLst (aNil))))) (eBin mulD3 (eF (fLst (aCons (eC (.bl true)) (aNil)))) (eUn lenD (eLook 10))) (eC (.str "a"))) (aCons (eBin mulD3 (eF (fLst (aCons (eC (.str "1")) (aNil)))) (eBin addD (eUn lenD (eLook 10)) (eC (.int 1)))) (aNil)))))))
def oddAW : AM := fLst (aCons (eC .non) (aCons (eC (.int 3)) (aCons (eF (fLst (aCons (eUn negD (eC (.int 1))) (aNil)))) (aCons (eF (fLst (aCons (eUn lenD (eBin ixD (eVar 12) (eC (.int 0)))) (aNil)))) (aCons (eF (fLst (aCons (eC (.bl true)) (aNil)))) (aCons (eF (fLst (aCons (eC (.str "0")) (aNil)))) (aNil)))))))
noncomputable def lapB : SM := (sSeq (sAsg (eCall F__law_frame (aCons (eVar 1) (aNil)) []) (gT 2 (gConsD (gN 9) (gConsD (gN 10) (gNilD)))))
    (sSeq (sAsg (eCall F__law_drawn (aCons (eVar 1) (aCons (eVar 9) (aCons (eUn lenD (eLook 10)) (aCons (eC (.int 5)) (aNil))))) []) (gT 2 (gConsD (gN 11) (gConsD (gN 12) (gNilD)))))
    (sSeq (sAsg (eNew "Machine" I_Machine (aCons (eVar 9) (aCons (eCall F__law_listed (aCons (eVar 1) (aCons (eVar 10) (aNil))) []) (aCons (eCall F__law_listed (aCons (eVar 1) (aCons (eVar 11) (aNil))) []) (aCons (eCall F__law_listed (aCons (eVar 1) (aCons (eF (fComp [] (iAny (eVar 12)) [20] (gN 20) (tmYes) (eCall F__law_listed (aCons (eVar 1) (aCons (eVar 20) (aNil))) []))) (aNil))) []) (aNil))))) []) (gN 13))
    (sSeq (sIf (tmB (eBin neD (eTup (aCons (eUn (fldD cs "base") (eVar 13)) (aCons (eUn (fldD cs "letters") (eVar 13)) (aCons (eUn (fldD cs "ends") (eVar 13)) (aCons (eUn (fldD cs "steps") (eVar 13)) (aCons (eUn (fldD cs "many") (eVar 13)) (aNil))))))) (eTup (aCons (eVar 9) (aCons (eUn tupleD (eLook 10)) (aCons (eUn tupleD (eLook 11)) (aCons (eUn tupleD (eF (fComp [] (iAny (eVar 12)) [20] (gN 20) (tmYes) (eUn tupleD (eLook 20))))) (aCons (eUn lenD (eLook 11)) (aNil))))))))) (sRet (eC (.bl false))) (sNext))
    (sSeq (sIf (tmOr (tmB (eCmpO cs Teq true (eVar 13) (eNew "Machine" I_Machine (aCons (eVar 9) (aCons (eVar 10) (aCons (eVar 11) (aCons (eVar 12) (aNil))))) []))) (tmB (eCmpO cs Teq false (eVar 13) (eTup (aCons (eVar 11) (aCons (eVar 12) (aNil))))))) (sRet (eC (.bl false))) (sNext))
    (sSeq (sFor (iRange1 (aCons (eC (.int 5)) (aNil))) (gN 14) stepB)
    (sSeq (sAsg (eCall F__law_pick (aCons (eVar 1) (aCons (eF oddAN) (aNil))) []) (gN 15))
    (sSeq (sIf (tmB (eBin neD (eLam cl__law_complaint "ok" (eCall F_accepts (aCons (eVar 13) (aCons (eVar 15) (aNil))) [])) (eTup (aCons (eC (.str "numbers")) (aCons (eUn reprD (eLook 15)) (aNil)))))) (sRet (eC (.bl false))) (sNext))
    (sSeq (sAsg (eCall F__law_pick (aCons (eVar 1) (aCons (eF oddAW) (aNil))) []) (gN 15))
    (sIf (tmB (eBin neD (eLam cl__law_complaint "ok" (eCall F_accepts_writing (aCons (eVar 13) (aCons (eVar 15) (aNil))) [])) (eTup (aCons (eC (.str "writing")) (aCons (eUn reprD (eLook 15)) (aNil)))))) (sRet (eC (.bl false))) (sNext)))))))))))
abbrev EL (x2 x9 x10 x11 x12 x13 x14 x15 x16 x17 x18 : Option Sl) : Ev := [none, some (.v .pen), x2, none, none, none, none, none, none, x9, x10, x11, x12, x13, x14, x15, x16, x17, x18, none, none]
theorem seq_rw {l : List Nat} {d : D} (h : SeqD (nInts l) d) : ∃ t, d = rwD (l, t) := by
  cases h
  · exact ⟨false, rfl⟩
  · exact ⟨true, rfl⟩
theorem comp_listed {eb : Ev} (he : ∀ x, ∃ e1, gN 20 x eb = some e1 ∧ e1[1]? = some (some (.v .pen)) ∧ e1[20]? = some (some (.v x))) : ∀ (rows : List (List Nat)) (n : Nat) (p : Pen), PenOk n p → n + rows.length ≤ 10000000 →
    ∃ (qs : List (List Nat × Bool)) (p' : Pen), compGo (gN 20) tmYes (eCall F__law_listed (aCons (eVar 1) (aCons (eVar 20) (aNil))) []) eb (rows.map fun r => .lst (nInts r)) p = some (qs.map rwD, p') ∧ qs.map (·.1) = rows ∧ PenOk (n + rows.length) p'
  | [], n, p, hp, _ => ⟨[], p, rfl, rfl, hp⟩
  | r :: rows, n, p, hp, hn => by
    rw [List.length_cons] at hn
    obtain ⟨d, p1, a1, b1, c1⟩ := listed_s hp (by omega) (SeqD.lst (ys := nInts r))
    obtain ⟨t, rfl⟩ := seq_rw b1
    obtain ⟨qs, p', k1, k2, k3⟩ := comp_listed he rows (n + 1) p1 c1 (by omega)
    obtain ⟨e1, g1, g2, g3⟩ := he (.lst (nInts r))
    refine ⟨(r, t) :: qs, p', ?_, by rw [List.map_cons, k2], k3.mono (by rw [List.length_cons]; omega)⟩
    rw [List.map_cons]
    unfold compGo
    rw [g1]
    dsimp only [tmYes]
    rw [eCall_ok (aCons_ok (eVar_v g2) (aCons_ok (eVar_v g3) aNil_ok)) a1]
    dsimp only
    rw [k1]
    rfl
theorem ls_pl : ∀ ls ∈ LS, ∀ n, ∀ x ∈ ls.map D.str, D.pl n x = true := by
  intro ls h n x hx
  unfold LS at h
  simp only [List.mem_cons, List.not_mem_nil, or_false] at h
  obtain ⟨y, hy, rfl⟩ := List.mem_map.mp hx
  have q : ∀ y ∈ (["x", "n", "a", "b"] : List Str), PyData.strOk y = true := by
    intro y hy
    simp only [List.mem_cons, List.not_mem_nil, or_false] at hy
    rcases hy with rfl | rfl | rfl | rfl <;> kernel_rfl
  have hq : PyData.strOk y = true := by
    refine q y ?_
    rcases h with rfl | rfl | rfl | rfl <;> simp at hy ⊢
    · simp [hy]
    · simp [hy]
    · rcases hy with hy | hy <;> simp [hy]
  cases n <;> exact hq
section
variable {m : Mc}
theorem truth_ok (t : Bool) (p : Pen) : F__law_is_truth [.bl t, .bl t] p = .ok (.bl true) p := by
  cases t <;> kernel_rfl
theorem pl_rows (n : Nat) (rows : List (List Nat)) : (D.tup (rows.map fun r => .tup (nInts r))).pl (n + 2) = true := pl_tup fun x hx => by
  obtain ⟨r, _, rfl⟩ := List.mem_map.mp hx
  exact pl_nat n r
theorem eq_m (h : m.Ok) (hp : m.ls ∈ LS) (p : Pen) : F_Machine_eq [m.d, m.d] p = .ok (.bl true) p := by
  unfold F_Machine_eq B_Machine_eq
  refine mkF_rt (e' := [vd m.d, vd m.d]) [vd m.d, vd m.d] rfl ?_
  have n1 : neD (.tup [.int (m.b : Int), .tup (m.ls.map D.str)]) (.tup [.int (m.b : Int), .tup (m.ls.map D.str)]) = some (.bl false) := ne_self (pl_tup fun x hx => by
    simp only [List.mem_cons, List.not_mem_nil, or_false] at hx
    rcases hx with rfl | rfl
    · exact pl_int _ _
    · exact pl_tup (ls_pl _ hp _))
  have n2 : eqD (.tup [.tup (nInts m.es), .tup (m.rows.map fun r => .tup (nInts r))]) (.tup [.tup (nInts m.es), .tup (m.rows.map fun r => .tup (nInts r))]) = some (.bl true) := eq_self (pl_tup fun x hx => by
    simp only [List.mem_cons, List.not_mem_nil, or_false] at hx
    rcases hx with rfl | rfl
    · exact pl_nat _ _
    · exact pl_rows _ _)
  exact (sSeq_nx (sIf_fn (tmOr_f (tmNot_ok (c := true) (tmE_ok (eUn_ok (eLook_v rfl) isM) rfl)) (tmB_ok (eBin_ok (eTup_ok (aCons_ok (eUn_ok (eVar_v rfl) f_base) (aCons_ok (eUn_ok (eVar_v rfl) f_letters) aNil_ok)) (by simp)) (eTup_ok (aCons_ok (eUn_ok (eVar_v rfl) f_base) (aCons_ok (eUn_ok (eVar_v rfl) f_letters) aNil_ok)) (by simp)) n1))))).trans
    (sRet_ok (eBin_ok (eTup_ok (aCons_ok (eUn_ok (eVar_v rfl) f_ends) (aCons_ok (eUn_ok (eVar_v rfl) f_steps) aNil_ok)) (by simp)) (eTup_ok (aCons_ok (eUn_ok (eVar_v rfl) f_ends) (aCons_ok (eUn_ok (eVar_v rfl) f_steps) aNil_ok)) (by simp)) n2))
theorem eq_t_ (xs : List D) (p : Pen) : F_Machine_eq [m.d, .tup xs] p = .ok (.bl false) p := by
  unfold F_Machine_eq B_Machine_eq
  refine mkF_rt (e' := [vd m.d, vd (.tup xs)]) [vd m.d, vd (.tup xs)] rfl ?_
  have i : isiC cs "Machine" (.tup xs) = some (.bl false) := rfl
  exact sSeq_rt ((sIf_t (tmOr_t (tmNot_ok (c := false) (tmE_ok (eUn_ok (eLook_v rfl) i) rfl)))).trans (sRet_ok eC_ok))
theorem cmp_of {neg c : Bool} {y : D} {e : Ev} {p : Pen} (hy : tyOk cs y = true) (h : F_Machine_eq [m.d, y] p = .ok (.bl c) p) : cmpO cs Teq neg m.d y e p = .ok (.bl (c != neg)) e p := by
  have l : Teq.lookup ("Machine" : Str) = some F_Machine_eq := by kernel_rfl
  show (if tyOk cs y = true then (match Teq.lookup ("Machine" : Str) with
    | some F => (match F [m.d, y] p with | .ok (.bl b) p' => Res.ok (D.bl (b != neg)) e p' | _ => .bad)
    | none => .bad) else .bad) = _
  rw [if_pos hy, l]
  dsimp only
  rw [h]
abbrev EM_ (m : Mc) (x2 x14 x15 x16 x17 x18 : Option Sl) : Ev := EL x2 (I_ m.b) (vd (lsD m.ls)) (vd (.lst (nInts m.es))) (vd (rowsD m.rows)) (vd m.d) x14 x15 x16 x17 x18
theorem zeros_r (r : Nat) (h : r ≤ 1000) : mulD3 (.lst [.int 0]) (.int (r : Int)) = some (.lst (nInts (List.replicate r 0))) := by
  have q := mulL (k := r) (l := 0) (Nat.zero_le _) h
  rw [Nat.sub_zero] at q
  have e : (r : Int) - ((0 : Nat) : Int) = (r : Int) := by omega
  rw [e] at q
  exact q
theorem step_n (h : m.Ok) {n : Nat} {p : Pen} (hp : PenOk n p) (hn : n ≤ 10000000) (x2 x14 x15 x16 x17 x18 : Option Sl) :
    ∃ y16 y17 y18 p', PenOk (n + 100) p' ∧ stepB (EM_ m x2 x14 x15 x16 x17 x18) p = .nx (EM_ m x2 x14 x15 y16 y17 y18) p' := by
  have hfew := h.ls.few
  -- the numbers
  obtain ⟨ys, p1, k1, k2, k3, k4⟩ := compGo_q (g := gN 19) (t := tmYes) (f := eCall F__law_draw (aCons (eVar 1) (aCons (eCall F__law_pick (aCons (eVar 1) (aCons (eF (fLst (aCons (eC (.int 3)) (aCons (eC (.int 50)) (aCons (eC (.int 100000000000000000000)) (aNil)))))) (aNil))) []) (aNil))) []) (eb := mask [19] (EM_ m x2 x14 x15 x16 x17 x18))
    (Q := fun d => ∃ x : Nat, d = .int (x : Int) ∧ x < 100000000000000000000) (N := 1000000000) (c := 2) (m.ls.map D.str) n p (fun x _ n' q hn' hq => by
      obtain ⟨_, v, q1, a1, b1, c1⟩ := pick (xs := [.int 3, .int 50, .int 100000000000000000000]) hq (by omega) (by simp) (by simp)
      obtain ⟨V, rfl, hV⟩ : ∃ V : Nat, v = .int (V : Int) ∧ (1 ≤ V ∧ V ≤ 100000000000000000000) := by
        have hm := List.mem_of_getElem? b1
        simp only [List.mem_cons, List.not_mem_nil, or_false] at hm
        rcases hm with rfl | rfl | rfl
        · exact ⟨3, rfl, by decide⟩
        · exact ⟨50, rfl, by decide⟩
        · exact ⟨100000000000000000000, rfl, by decide⟩
      obtain ⟨r, q2, a2, b2, c2⟩ := drawN (many := V) c1 (by omega) (by omega) (Nat.lt_of_le_of_lt hV.2 (by decide))
      refine ⟨_, _, .int (r : Int), [none, some (.v .pen), unown x2, none, none, none, none, none, none, I_ m.b, vd (lsD m.ls), vd (.lst (nInts m.es)), vd (rowsD m.rows), vd m.d, unown x14, unown x15, unown x16, unown x17, unown x18, vd x, none], q2, rfl, rfl, ?_, ⟨r, rfl, by omega⟩, c2⟩
      exact eCall_ok (aCons_ok (eVar_v rfl) (aCons_ok (eCall_ok (aCons_ok (eVar_v rfl) (aCons_ok (eF_ok (fLst_ok (aCons_ok eC_ok (aCons_ok eC_ok (aCons_ok eC_ok aNil_ok))) (by simp))) aNil_ok)) a1) aNil_ok)) a2) (by rw [List.length_map]; omega) hp
  rw [List.length_map] at k2 k4
  obtain ⟨ns, rfl, l1, l2⟩ := nInts_of k3
  have hl : ns.length = m.ls.length := by rw [l1, k2]
  obtain ⟨W, hN⟩ := Nums.of (b := m.b) (ns := ns) h.hb (by omega) fun x hx => Nat.lt_trans (l2 x hx) (by decide)
  have cl : ∀ c ∈ colsN hN, c < m.C := fun c z => by have := cols_lt hN c z; rw [hl] at this; exact this
  have s1 : sOwn (fComp [] (iAny (eVar 10)) [19] (gN 19) (tmYes) (eCall F__law_draw (aCons (eVar 1) (aCons (eCall F__law_pick (aCons (eVar 1) (aCons (eF (fLst (aCons (eC (.int 3)) (aCons (eC (.int 50)) (aCons (eC (.int 100000000000000000000)) (aNil)))))) (aNil))) []) (aNil))) [])) 16 (EM_ m x2 x14 x15 x16 x17 x18) p = .nx (EM_ m x2 x14 x15 (some (.own (nInts ns))) x17 x18) p1 := by
    refine (sOwn_ok (e1 := EM_ m x2 x14 x15 x16 x17 x18) (p1 := p1) (ds := nInts ns) ?_)
    unfold fComp
    have hi : iAny (eVar 10) (freeze [] (EM_ m x2 x14 x15 x16 x17 x18)) p = .ok (m.ls.map D.str) (EM_ m x2 x14 x15 x16 x17 x18) p := iAny_l (eVar_v rfl)
    rw [hi]
    show (if small (m.ls.map D.str).length then _ else _) = _
    rw [if_pos (by rw [List.length_map]; show m.ls.length ≤ _; omega), k1]
  obtain ⟨d1, p2, a2, b2, c2⟩ := listed_s k4 (by omega) (SeqD.lst (ys := nInts ns))
  obtain ⟨r, p3, a3, b3, c3⟩ := drawN (many := 4) c2 (by omega) (by decide) (by decide)
  have a3 : F__law_draw [.pen, .int 4] p2 = .ok (.int (r : Int)) p3 := a3
  have cle : (colsN hN).length = W := by unfold colsN; rw [List.length_map, List.length_range]
  have hW := hN.small
  obtain ⟨d2, p4, a4, b4, c4⟩ := listed_s c3 (by omega) (SeqD.lst (ys := nInts (List.replicate r 0 ++ colsN hN)))
  have wcl : ∀ c ∈ List.replicate r 0 ++ colsN hN, c < m.C := fun c z => by
    rcases List.mem_append.mp z with z | z
    · rw [List.eq_of_mem_replicate z]
      exact h.C0
    · exact cl c z
  refine ⟨vd (.lst (nInts ns)), vd (.bl (takes m (colsN hN))), vd (.lst (nInts (List.replicate r 0 ++ colsN hN))), p4, c4.mono (by omega), ?_⟩
  unfold stepB
  refine (sSeq_nx s1).trans ?_
  refine (sSeq_nx (e' := EM_ m x2 x14 x15 (vd (.lst (nInts ns))) (vd (.bl (takes m (colsN hN)))) x18) (p' := p1) (sAsg_ok (e1 := EM_ m x2 x14 x15 (vd (.lst (nInts ns))) x17 x18) (eCall_ok (aCons_ok (eVar_v rfl) (aCons_ok (eVar_v rfl) (aCons_ok (eVar_o rfl) (aCons_ok (eVar_v rfl) aNil_ok)))) (taken_n h hN hl p1)) rfl)).trans ?_
  refine (sSeq_nx (e' := EM_ m x2 x14 x15 (vd (.lst (nInts ns))) (vd (.bl (takes m (colsN hN)))) x18) (p' := p2) (sIf_fn (tmNot_ok (c := true) (tmE_ok (eCall_ok (aCons_ok (eCall_ok (aCons_ok (eVar_v rfl) (aCons_ok (eCall_ok (aCons_ok (eVar_v rfl) (aCons_ok (eVar_v rfl) aNil_ok)) a2) aNil_ok)) (accepts_n h hN hl b2 p2)) (aCons_ok (eVar_v rfl) aNil_ok)) (truth_ok _ p2)) rfl)))).trans ?_
  refine (sSeq_nx (e' := EM_ m x2 x14 x15 (vd (.lst (nInts ns))) (vd (.bl (takes m (colsN hN)))) (vd (.lst (nInts (List.replicate r 0 ++ colsN hN))))) (p' := p3) (sAsg_ok (eBin_ok (eBin_ok (eF_ok (fLst_ok (aCons_ok eC_ok aNil_ok) (by simp))) (eCall_ok (aCons_ok (eVar_v rfl) (aCons_ok eC_ok aNil_ok)) a3) (zeros_r r (by omega))) (eCall_ok (aCons_ok (eVar_v rfl) (aCons_ok (eVar_v rfl) aNil_ok)) (law_columns_n hN p3)) (addL _ _ (by rw [List.length_replicate, cle]; omega))) rfl)).trans ?_
  have w := writing_n h (cols := List.replicate r 0 ++ colsN hN) (by rw [List.length_append, List.length_replicate, cle]; omega) wcl b4 p4
  have ez : takes m (List.replicate r 0 ++ colsN hN) = takes m (colsN hN) := by unfold takes; rw [run_zeros h]
  rw [ez] at w
  exact sIf_fn (tmNot_ok (c := true) (tmE_ok (eCall_ok (aCons_ok (eCall_ok (aCons_ok (eVar_v rfl) (aCons_ok (eCall_ok (aCons_ok (eVar_v rfl) (aCons_ok (eVar_v rfl) aNil_ok)) a4) aNil_ok)) w) (aCons_ok (eVar_v rfl) aNil_ok)) (truth_ok _ p4)) rfl))
theorem steps_n (h : m.Ok) (x2 x15 : Option Sl) : ∀ (ds : List D) (n : Nat) (p : Pen) (x14 x16 x17 x18 : Option Sl), PenOk n p → n + 100 * ds.length ≤ 10000000 →
    ∃ y14 y16 y17 y18 p', PenOk (n + 100 * ds.length) p' ∧ forGo (gN 14) stepB ds (EM_ m x2 x14 x15 x16 x17 x18) p = .nx (EM_ m x2 y14 x15 y16 y17 y18) p'
  | [], n, p, x14, x16, x17, x18, hp, _ => ⟨x14, x16, x17, x18, p, by simpa using hp, rfl⟩
  | d :: ds, n, p, x14, x16, x17, x18, hp, hn => by
    rw [List.length_cons] at hn
    obtain ⟨y16, y17, y18, p1, h1, h2⟩ := step_n h hp (by omega) x2 (vd d) x15 x16 x17 x18
    obtain ⟨z14, z16, z17, z18, p2, h3, h4⟩ := steps_n h x2 x15 ds (n + 100) p1 (vd d) y16 y17 y18 h1 (by omega)
    exact ⟨z14, z16, z17, z18, p2, h3.mono (by rw [List.length_cons]; omega), (forGo_nx rfl h2).trans h4⟩
end
theorem oddAN_ok : ∀ ls ∈ LS, ∀ (x2 x9 x11 x12 x13 x14 x15 x16 x17 x18 : Option Sl) (p : Pen), oddAN (EL x2 x9 (vd (lsD ls)) x11 x12 x13 x14 x15 x16 x17 x18) p = .ok ((oddN ls.length).map fun (c : D × Str) => c.1) (EL x2 x9 (vd (lsD ls)) x11 x12 x13 x14 x15 x16 x17 x18) p := by
  intro ls h
  unfold LS at h
  simp only [List.mem_cons, List.not_mem_nil, or_false] at h
  rcases h with rfl | rfl | rfl | rfl <;> intro x2 x9 x11 x12 x13 x14 x15 x16 x17 x18 p <;> kernel_rfl
theorem oddAW_ok {m : Mc} (h : m.Ok) (x2 x14 x15 x16 x17 x18 : Option Sl) (p : Pen) : oddAW (EM_ m x2 x14 x15 x16 x17 x18) p = .ok ((oddW m.C).map fun (c : D × Str) => c.1) (EM_ m x2 x14 x15 x16 x17 x18) p := by
  have he := h.es
  have hl := h.len
  have r0 : m.rows[0]? = some m.rows[0] := List.getElem?_eq_getElem (by omega)
  have l0 := (h.row _ (List.getElem_mem (show 0 < m.rows.length by omega))).1
  unfold oddAW
  exact fLst_ok (aCons_ok eC_ok (aCons_ok eC_ok (aCons_ok (eF_ok (fLst_ok (aCons_ok (d := .int (-1)) (eUn_ok eC_ok rfl) aNil_ok) (by simp))) (aCons_ok (eF_ok (fLst_ok (aCons_ok (d := .int (m.C : Int)) (eUn_ok (eBin_ok (eVar_v rfl) eC_ok (lstL (s := 0) _ r0)) (by rw [o_lenL, List.length_map, l0])) aNil_ok) (by simp))) (aCons_ok (eF_ok (fLst_ok (aCons_ok eC_ok aNil_ok) (by simp))) (aCons_ok (eF_ok (fLst_ok (aCons_ok eC_ok aNil_ok) (by simp))) aNil_ok)))))) (by show 6 ≤ 10000000; decide)
theorem C_in {b : Nat} {ls : List Str} (hb : 2 ≤ b ∧ b ≤ 4) (hl : ls ∈ LS) : b ^ ls.length ∈ ([1, 2, 3, 4, 9, 16] : List Nat) := by
  unfold LS at hl
  simp only [List.mem_cons, List.not_mem_nil, or_false] at hl
  obtain rfl | rfl | rfl : b = 2 ∨ b = 3 ∨ b = 4 := by omega
  all_goals rcases hl with rfl | rfl | rfl | rfl <;> decide
theorem lap_n {n : Nat} {p : Pen} (hp : PenOk n p) (hn : n ≤ 1000000) (x2 x9 x10 x11 x12 x13 x14 x15 x16 x17 x18 : Option Sl) :
    ∃ y9 y10 y11 y12 y13 y14 y15 y16 y17 y18 p', PenOk (n + 5000) p' ∧ lapB (EL x2 x9 x10 x11 x12 x13 x14 x15 x16 x17 x18) p = .nx (EL x2 y9 y10 y11 y12 y13 y14 y15 y16 y17 y18) p' := by
  obtain ⟨b, ls, p1, a1, hb, hls, hC, c1⟩ := frame_n hp (by omega)
  have lok := ls_ok ls hls
  obtain ⟨es, rows, p2, a2, d1, d2, d3, d4, d5, c2⟩ := drawn_n (b := b) (k := ls.length) c1 (by omega) hb lok.few
  let m : Mc := ⟨b, ls, es, rows⟩
  have ok : m.Ok := ⟨hb, lok, hC, d1, d2, d3, d4, d5⟩
  obtain ⟨L, p3, a3, b3, c3⟩ := listed_s c2 (by omega) (SeqD.lst (ys := ls.map D.str))
  obtain ⟨E, p4, a4, b4, c4⟩ := listed_s c3 (by omega) (SeqD.lst (ys := nInts es))
  let e12 : Ev := EL x2 (I_ b) (vd (lsD ls)) (vd (.lst (nInts es))) (vd (rowsD rows)) x13 x14 x15 x16 x17 x18
  obtain ⟨qs, p5, k1, k2, k3⟩ := comp_listed (eb := mask [20] e12) (fun x => ⟨_, rfl, rfl, rfl⟩) rows _ p4 c4 (by omega)
  obtain ⟨S, p6, a6, b6, c6⟩ := listed_s k3 (by omega) (SeqD.lst (ys := qs.map rwD))
  have hcomp : fComp [] (iAny (eVar 12)) [20] (gN 20) (tmYes) (eCall F__law_listed (aCons (eVar 1) (aCons (eVar 20) (aNil))) []) e12 p4 = .ok (qs.map rwD) e12 p5 := by
    unfold fComp
    have hi : iAny (eVar 12) (freeze [] e12) p4 = .ok (rows.map fun r => .lst (nInts r)) e12 p4 := iAny_l (eVar_v rfl)
    rw [hi]
    show (if small (rows.map fun r => D.lst (nInts r)).length then _ else _) = _
    rw [if_pos (by rw [List.length_map]; show rows.length ≤ _; omega), k1]
  obtain ⟨y14, y16, y17, y18, p7, c7, st7⟩ := steps_n ok x2 x15 ((List.range 5).map fun k : Nat => .int (k : Int)) _ p6 x14 x16 x17 x18 c6 (by simp; omega)
  obtain ⟨_, u, p8, a8, b8, c8⟩ := pick (xs := (oddN ls.length).map fun (c : D × Str) => c.1) c7 (by simp; omega) (by rw [List.length_map]; unfold oddN; split <;> decide) (by rw [List.length_map]; unfold oddN; split <;> decide)
  obtain ⟨⟨ud, ur⟩, um, rfl⟩ := List.mem_map.mp (List.mem_of_getElem? b8)
  have U := oddN_ok ls.length lok.few _ um
  dsimp only at a8 U
  obtain ⟨_, v, p9, a9, b9, c9⟩ := pick (xs := (oddW m.C).map fun (c : D × Str) => c.1) c8 (by simp; omega) (by rw [List.length_map]; show 0 < 6; decide) (by rw [List.length_map]; show 6 ≤ 1000000; decide)
  obtain ⟨⟨vdd, vr⟩, vm, rfl⟩ := List.mem_map.mp (List.mem_of_getElem? b9)
  have V := oddW_ok m.C (C_in hb hls) _ vm
  dsimp only at a9 V
  refine ⟨I_ b, vd (lsD ls), vd (.lst (nInts es)), vd (rowsD rows), vd m.d, y14, vd vdd, y16, y17, y18, p9, c9.mono (by simp; omega), ?_⟩
  unfold lapB
  refine (sSeq_nx (e' := EL x2 (I_ b) (vd (lsD ls)) x11 x12 x13 x14 x15 x16 x17 x18) (p' := p1) (sAsg_ok (eCall_ok (aCons_ok (eVar_v rfl) aNil_ok) a1) rfl)).trans ?_
  refine (sSeq_nx (e' := e12) (p' := p2) (sAsg_ok (e1 := EL x2 (I_ b) (vd (lsD ls)) x11 x12 x13 x14 x15 x16 x17 x18) (eCall_ok (aCons_ok (eVar_v rfl) (aCons_ok (eVar_v rfl) (aCons_ok (d := .int (ls.length : Int)) (eUn_ok (eLook_v rfl) (by rw [o_lenL, List.length_map])) (aCons_ok eC_ok aNil_ok)))) a2) rfl)).trans ?_
  have hargs : aCons (eVar 9) (aCons (eCall F__law_listed (aCons (eVar 1) (aCons (eVar 10) (aNil))) []) (aCons (eCall F__law_listed (aCons (eVar 1) (aCons (eVar 11) (aNil))) []) (aCons (eCall F__law_listed (aCons (eVar 1) (aCons (eF (fComp [] (iAny (eVar 12)) [20] (gN 20) (tmYes) (eCall F__law_listed (aCons (eVar 1) (aCons (eVar 20) (aNil))) []))) (aNil))) []) (aNil)))) e12 p2 = .ok [.int (m.b : Int), L, E, S] e12 p6 :=
    aCons_ok (eVar_v rfl) (aCons_ok (eCall_ok (aCons_ok (eVar_v rfl) (aCons_ok (eVar_v rfl) aNil_ok)) a3) (aCons_ok (eCall_ok (aCons_ok (eVar_v rfl) (aCons_ok (eVar_v rfl) aNil_ok)) a4) (aCons_ok (eCall_ok (aCons_ok (eVar_v rfl) (aCons_ok (eF_ok hcomp) aNil_ok)) a6) aNil_ok)))
  refine (sSeq_nx (e' := EM_ m x2 x14 x15 x16 x17 x18) (p' := p6) (sAsg_ok (e1 := e12) (new_ok ok (m := m) b3 b4 k2 b6 hargs) rfl)).trans ?_
  -- the parts
  have t4 : tmB (eBin neD (eTup (aCons (eUn (fldD cs "base") (eVar 13)) (aCons (eUn (fldD cs "letters") (eVar 13)) (aCons (eUn (fldD cs "ends") (eVar 13)) (aCons (eUn (fldD cs "steps") (eVar 13)) (aCons (eUn (fldD cs "many") (eVar 13)) (aNil))))))) (eTup (aCons (eVar 9) (aCons (eUn tupleD (eLook 10)) (aCons (eUn tupleD (eLook 11)) (aCons (eUn tupleD (eF (fComp [] (iAny (eVar 12)) [20] (gN 20) (tmYes) (eUn tupleD (eLook 20))))) (aCons (eUn lenD (eLook 11)) (aNil)))))))) (EM_ m x2 x14 x15 x16 x17 x18) p6 = .ok false (EM_ m x2 x14 x15 x16 x17 x18) p6 := by
    have q := fComp_gen (js := []) (it := iAny (eVar 12)) (vs := [20]) (g := gN 20) (t := tmYes) (f := eUn tupleD (eLook 20)) (e := EM_ m x2 x14 x15 x16 x17 x18) (e' := EM_ m x2 x14 x15 x16 x17 x18) (p := p6)
      (fun r : List Nat => .lst (nInts r)) (fun r => .tup (nInts r)) (xs := rows) (iAny_l (eVar_v rfl)) (by omega) fun r hr => ⟨_, rfl, _, rfl, _, eUn_ok (eLook_v rfl) rfl⟩
    refine tmB_ok (eBin_ok (eTup_ok (aCons_ok (eUn_ok (eVar_v rfl) f_base) (aCons_ok (eUn_ok (eVar_v rfl) f_letters) (aCons_ok (eUn_ok (eVar_v rfl) f_ends) (aCons_ok (eUn_ok (eVar_v rfl) f_steps) (aCons_ok (eUn_ok (eVar_v rfl) f_many) aNil_ok))))) (by simp)) (eTup_ok (ds := [.int (m.b : Int), .tup (m.ls.map D.str), .tup (nInts m.es), .tup (m.rows.map fun r => .tup (nInts r)), .int (m.es.length : Int)]) (aCons_ok (eVar_v rfl) (aCons_ok (eUn_ok (eLook_v rfl) rfl) (aCons_ok (eUn_ok (eLook_v rfl) rfl) (aCons_ok (tupF_ok q) (aCons_ok (eUn_ok (eLook_v rfl) (by rw [o_lenL, List.length_map])) aNil_ok))))) (by simp)) (ne_self (pl_tup fun x hx => ?_)))
    simp only [List.mem_cons, List.not_mem_nil, or_false] at hx
    rcases hx with rfl | rfl | rfl | rfl | rfl
    · exact pl_int _ _
    · exact pl_tup (ls_pl _ hls _)
    · exact pl_nat _ _
    · exact pl_rows _ _
    · exact pl_int _ _
  refine (sSeq_nx (sIf_fn t4)).trans ?_
  -- == and !=
  have hnew : eNew "Machine" I_Machine (aCons (eVar 9) (aCons (eVar 10) (aCons (eVar 11) (aCons (eVar 12) (aNil))))) [] (EM_ m x2 x14 x15 x16 x17 x18) p6 = .ok m.d (EM_ m x2 x14 x15 x16 x17 x18) p6 :=
    new_ok ok (m := m) (qs := rows.map fun r => (r, false)) (L := lsD ls) (E := .lst (nInts es)) (S := rowsD rows) .lst .lst (by rw [List.map_map]; exact List.map_id _) (by
      have e : rowsD rows = .lst ((rows.map fun r => (r, false)).map rwD) := by rw [List.map_map]; rfl
      rw [e]
      exact .lst) (aCons_ok (eVar_v rfl) (aCons_ok (eVar_v rfl) (aCons_ok (eVar_v rfl) (aCons_ok (eVar_v rfl) aNil_ok))))
  refine (sSeq_nx (sIf_fn (tmOr_f (tmB_ok (c := false) (eCmpO_ok (eVar_v rfl) hnew (cmp_of (m := m) (neg := true) (by kernel_rfl) (eq_m ok hls p6)))) (tmB_ok (c := false) (eCmpO_ok (eVar_v rfl) (eTup_ok (aCons_ok (eVar_v rfl) (aCons_ok (eVar_v rfl) aNil_ok)) (by simp)) (cmp_of (m := m) (neg := false) rfl (eq_t_ _ p6))))))).trans ?_
  refine (sSeq_nx (sFor_ok (range_n2 5 (by decide) eC_ok) st7)).trans ?_
  -- odd numbers
  refine (sSeq_nx (e' := EM_ m x2 y14 (vd ud) y16 y17 y18) (p' := p8) (sAsg_ok (eCall_ok (aCons_ok (eVar_v rfl) (aCons_ok (eF_ok (oddAN_ok ls hls _ _ _ _ _ _ _ _ _ _ p7)) aNil_ok)) a8) rfl)).trans ?_
  refine (sSeq_nx (sIf_fn (tmB_ok (eBin_ok (eLam_exc (eCall_exc (aCons_ok (eVar_v rfl) (aCons_ok (eVar_v rfl) aNil_ok)) (accepts_x ok U p8)) U.cl) (eTup_ok (aCons_ok eC_ok (aCons_ok (eUn_ok (eLook_v rfl) U.rp) aNil_ok)) (by simp)) U.ne)))).trans ?_
  refine (sSeq_nx (e' := EM_ m x2 y14 (vd vdd) y16 y17 y18) (p' := p9) (sAsg_ok (eCall_ok (aCons_ok (eVar_v rfl) (aCons_ok (eF_ok (oddAW_ok ok _ _ _ _ _ _ p8)) aNil_ok)) a9) rfl)).trans ?_
  exact sIf_fn (tmB_ok (eBin_ok (eLam_exc (eCall_exc (aCons_ok (eVar_v rfl) (aCons_ok (eVar_v rfl) aNil_ok)) (writing_x ok V p9)) V.cl) (eTup_ok (aCons_ok eC_ok (aCons_ok (eUn_ok (eLook_v rfl) V.rp) aNil_ok)) (by simp)) V.ne))
theorem laps_n : ∀ (ds : List D) (n : Nat) (p : Pen) (x2 x9 x10 x11 x12 x13 x14 x15 x16 x17 x18 : Option Sl), PenOk n p → n + 5000 * ds.length ≤ 1000000 →
    ∃ y2 y9 y10 y11 y12 y13 y14 y15 y16 y17 y18 p', PenOk (n + 5000 * ds.length) p' ∧ forGo (gN 2) lapB ds (EL x2 x9 x10 x11 x12 x13 x14 x15 x16 x17 x18) p = .nx (EL y2 y9 y10 y11 y12 y13 y14 y15 y16 y17 y18) p'
  | [], n, p, x2, x9, x10, x11, x12, x13, x14, x15, x16, x17, x18, hp, _ => ⟨x2, x9, x10, x11, x12, x13, x14, x15, x16, x17, x18, p, by simpa using hp, rfl⟩
  | d :: ds, n, p, x2, x9, x10, x11, x12, x13, x14, x15, x16, x17, x18, hp, hn => by
    rw [List.length_cons] at hn
    obtain ⟨y9, y10, y11, y12, y13, y14, y15, y16, y17, y18, p1, h1, h2⟩ := lap_n hp (by omega) (vd d) x9 x10 x11 x12 x13 x14 x15 x16 x17 x18
    obtain ⟨z2, z9, z10, z11, z12, z13, z14, z15, z16, z17, z18, p2, h3, h4⟩ := laps_n ds (n + 5000) p1 (vd d) y9 y10 y11 y12 y13 y14 y15 y16 y17 y18 h1 (by omega)
    exact ⟨z2, z9, z10, z11, z12, z13, z14, z15, z16, z17, z18, p2, h3.mono (by rw [List.length_cons]; omega), (forGo_nx rfl h2).trans h4⟩
end K09

namespace K09
open PySem PySem.Spec L2 Pd PdSet
abbrev EZ (x2 x3 x4 x5 x6 x7 x8 y9 y10 y11 y12 y13 y14 y15 y16 y17 y18 : Option Sl) : Ev := [none, some (.v .pen), x2, x3, x4, x5, x6, x7, x8, y9, y10, y11, y12, y13, y14, y15, y16, y17, y18, none, none]
def toD (c : (D × D × D × D) × Str) : D := .tup [.tup [c.1.1, c.1.2.1, c.1.2.2.1, c.1.2.2.2], .str c.2]
abbrev someD (k : Nat) : D := .lst ((badM.take k).map toD)
def t1 : SM := (sAsg (eTup (aCons (eC (.int 2)) (aCons (eF (fLst (aCons (eC (.str "x")) (aNil)))) (aCons (eF (fLst (aCons (eC (.int 0)) (aCons (eC (.int 1)) (aNil))))) (aCons (eF (fLst (aCons (eF (fLst (aCons (eC (.int 0)) (aCons (eC (.int 1)) (aNil))))) (aCons (eF (fLst (aCons (eC (.int 1)) (aCons (eC (.int 0)) (aNil))))) (aNil))))) (aNil)))))) (gN 3))
def t2 : SM := (sAsg (eF (fLst (aCons (eTup (aCons (eTup (aCons (eC (.int 1)) (aCons (eC .non) (aCons (eC .non) (aCons (eC .non) (aNil)))))) (aCons (eC (.str "base")) (aNil)))) (aCons (eTup (aCons (eTup (aCons (eC (.int 5)) (aCons (eC .non) (aCons (eC .non) (aCons (eC .non) (aNil)))))) (aCons (eC (.str "base")) (aNil)))) (aCons (eTup (aCons (eTup (aCons (eC (.bl true)) (aCons (eC .non) (aCons (eC .non) (aCons (eC .non) (aNil)))))) (aCons (eC (.str "base")) (aNil)))) (aCons (eTup (aCons (eTup (aCons (eC (.int 2)) (aCons (eC .non) (aCons (eC .non) (aCons (eC .non) (aNil)))))) (aCons (eC (.str "letters")) (aNil)))) (aCons (eTup (aCons (eTup (aCons (eC (.int 2)) (aCons (eF (fLst (aCons (eC (.str "x")) (aCons (eC (.str "x")) (aNil))))) (aCons (eC .non) (aCons (eC .non) (aNil)))))) (aCons (eC (.str "letters")) (aNil)))) (aNil)))))))) (gN 4))
def t3 : SM := (sAsg (eBin addD (eVar 4) (eF (fLst (aCons (eTup (aCons (eTup (aCons (eC (.int 2)) (aCons (eF (fLst (aCons (eC (.str "y")) (aCons (eC (.str "x")) (aNil))))) (aCons (eC .non) (aCons (eC .non) (aNil)))))) (aCons (eC (.str "letters")) (aNil)))) (aCons (eTup (aCons (eTup (aCons (eC (.int 4)) (aCons (eF (fLst (aCons (eC (.str "a")) (aCons (eC (.str "b")) (aCons (eC (.str "c")) (aNil)))))) (aCons (eC .non) (aCons (eC .non) (aNil)))))) (aCons (eC (.str "letters")) (aNil)))) (aCons (eTup (aCons (eTup (aCons (eC (.int 2)) (aCons (eF (fLst (aCons (eC (.str "X")) (aNil)))) (aCons (eC .non) (aCons (eC .non) (aNil)))))) (aCons (eC (.str "letters")) (aNil)))) (aCons (eTup (aCons (eTup (aCons (eC (.int 2)) (aCons (eF (fLst (aCons (eC (.str "x")) (aNil)))) (aCons (eF (fLst (aNil))) (aCons (eC .non) (aNil)))))) (aCons (eC (.str "ends")) (aNil)))) (aCons (eTup (aCons (eTup (aCons (eC (.int 2)) (aCons (eF (fLst (aCons (eC (.str "x")) (aNil)))) (aCons (eF (fLst (aCons (eC (.int 0)) (aCons (eC (.int 2)) (aNil))))) (aCons (eC .non) (aNil)))))) (aCons (eC (.str "ends")) (aNil)))) (aNil))))))))) (gN 4))
def t4 : SM := (sAsg (eBin addD (eVar 4) (eF (fLst (aCons (eTup (aCons (eTup (aCons (eC (.int 2)) (aCons (eF (fLst (aCons (eC (.str "x")) (aNil)))) (aCons (eF (fLst (aCons (eC (.int 0)) (aCons (eC (.bl true)) (aNil))))) (aCons (eC .non) (aNil)))))) (aCons (eC (.str "ends")) (aNil)))) (aCons (eTup (aCons (eTup (aCons (eC (.int 2)) (aCons (eF (fLst (aCons (eC (.str "x")) (aNil)))) (aCons (eF (fLst (aCons (eC (.int 0)) (aCons (eC (.int 1)) (aNil))))) (aCons (eF (fLst (aCons (eF (fLst (aCons (eC (.int 0)) (aCons (eC (.int 1)) (aNil))))) (aNil)))) (aNil)))))) (aCons (eC (.str "steps")) (aNil)))) (aCons (eTup (aCons (eTup (aCons (eC (.int 2)) (aCons (eF (fLst (aCons (eC (.str "x")) (aNil)))) (aCons (eF (fLst (aCons (eC (.int 0)) (aCons (eC (.int 1)) (aNil))))) (aCons (eF (fLst (aCons (eF (fLst (aCons (eC (.int 0)) (aCons (eC (.int 1)) (aNil))))) (aCons (eF (fLst (aCons (eC (.int 1)) (aNil)))) (aNil))))) (aNil)))))) (aCons (eC (.str "steps")) (aNil)))) (aCons (eTup (aCons (eTup (aCons (eC (.int 2)) (aCons (eF (fLst (aCons (eC (.str "x")) (aNil)))) (aCons (eF (fLst (aCons (eC (.int 0)) (aCons (eC (.int 1)) (aNil))))) (aCons (eF (fLst (aCons (eF (fLst (aCons (eC (.int 0)) (aCons (eC (.int 1)) (aNil))))) (aCons (eF (fLst (aCons (eC (.int 1)) (aCons (eC (.int 2)) (aNil))))) (aNil))))) (aNil)))))) (aCons (eC (.str "steps")) (aNil)))) (aNil)))))))) (gN 4))
def t5 : SM := (sAsg (eBin addD (eVar 4) (eF (fLst (aCons (eTup (aCons (eTup (aCons (eC (.int 2)) (aCons (eF (fLst (aCons (eC (.str "x")) (aNil)))) (aCons (eF (fLst (aCons (eC (.int 0)) (aCons (eC (.int 1)) (aNil))))) (aCons (eF (fLst (aCons (eF (fLst (aCons (eC (.int 0)) (aCons (eC (.int 1)) (aNil))))) (aCons (eF (fLst (aCons (eC (.int 1)) (aCons (eC (.bl false)) (aNil))))) (aNil))))) (aNil)))))) (aCons (eC (.str "steps")) (aNil)))) (aCons (eTup (aCons (eTup (aCons (eC (.int 2)) (aCons (eF (fLst (aCons (eC (.str "x")) (aNil)))) (aCons (eF (fLst (aCons (eC (.int 0)) (aCons (eC (.int 1)) (aNil))))) (aCons (eF (fLst (aCons (eF (fLst (aCons (eC (.int 1)) (aCons (eC (.int 1)) (aNil))))) (aCons (eF (fLst (aCons (eC (.int 1)) (aCons (eC (.int 0)) (aNil))))) (aNil))))) (aNil)))))) (aCons (eC (.str "noughts")) (aNil)))) (aCons (eTup (aCons (eTup (aCons (eC (.int 2)) (aCons (eF (fLst (aCons (eC (.str "x")) (aNil)))) (aCons (eC .non) (aCons (eF (fLst (aCons (eF (fLst (aCons (eC (.int 1)) (aCons (eC (.int 1)) (aNil))))) (aCons (eF (fLst (aCons (eC (.int 1)) (aCons (eC (.int 0)) (aNil))))) (aNil))))) (aNil)))))) (aCons (eC (.str "ends")) (aNil)))) (aNil))))))) (gN 4))
section
variable (x2 x3 x4 x5 x6 x7 x8 y9 y10 y11 y12 y13 y14 y15 y16 y17 y18 : Option Sl) (p : Pen)
theorem t1_ok : t1 (EZ x2 x3 x4 x5 x6 x7 x8 y9 y10 y11 y12 y13 y14 y15 y16 y17 y18) p = .nx (EZ x2 (vd rightD) x4 x5 x6 x7 x8 y9 y10 y11 y12 y13 y14 y15 y16 y17 y18) p := by kernel_rfl
theorem t2_ok : t2 (EZ x2 x3 x4 x5 x6 x7 x8 y9 y10 y11 y12 y13 y14 y15 y16 y17 y18) p = .nx (EZ x2 x3 (vd (someD 5)) x5 x6 x7 x8 y9 y10 y11 y12 y13 y14 y15 y16 y17 y18) p := by kernel_rfl
theorem t3_ok : t3 (EZ x2 x3 (vd (someD 5)) x5 x6 x7 x8 y9 y10 y11 y12 y13 y14 y15 y16 y17 y18) p = .nx (EZ x2 x3 (vd (someD 10)) x5 x6 x7 x8 y9 y10 y11 y12 y13 y14 y15 y16 y17 y18) p := by kernel_rfl
theorem t4_ok : t4 (EZ x2 x3 (vd (someD 10)) x5 x6 x7 x8 y9 y10 y11 y12 y13 y14 y15 y16 y17 y18) p = .nx (EZ x2 x3 (vd (someD 14)) x5 x6 x7 x8 y9 y10 y11 y12 y13 y14 y15 y16 y17 y18) p := by kernel_rfl
theorem t5_ok : t5 (EZ x2 x3 (vd (someD 14)) x5 x6 x7 x8 y9 y10 y11 y12 y13 y14 y15 y16 y17 y18) p = .nx (EZ x2 x3 (vd (someD 17)) x5 x6 x7 x8 y9 y10 y11 y12 y13 y14 y15 y16 y17 y18) p := by kernel_rfl
end
theorem eNew_x {f : AM} {e e1 : Ev} {p p1 p2 : Pen} {ds : List D} {x : Xn} (h : f e p = .ok ds e1 p1) (hI : I_Machine ds p1 = .exc x p2) : eNew "Machine" I_Machine f [] e p = .exc x e1 p2 := by
  unfold eNew
  rw [h]
  show (match I_Machine (ds ++ []) p1 with | .ok gs p' => Res.ok (D.obj "Machine" gs) e1 p' | .exc x p' => .exc x e1 p' | .bad => .bad) = _
  rw [List.append_nil, hI]
noncomputable def bodyM : SM := sIf (tmB (eBin neD (eLam cl__law_complaint "ok" (eNew "Machine" I_Machine (aCons (eBin ixD (eVar 5) (eC (.int 0))) (aCons (eBin ixD (eVar 5) (eC (.int 1))) (aCons (eBin ixD (eVar 5) (eC (.int 2))) (aCons (eBin ixD (eVar 5) (eC (.int 3))) (aNil))))) [])) (eTup (aCons (eC (.str "machine")) (aCons (eVar 6) (aNil)))))) (sRet (eC (.bl false))) (sNext)
theorem loopM (x2 x3 x4 x7 x8 y9 y10 y11 y12 y13 y14 y15 y16 y17 y18 : Option Sl) (p : Pen) : ∀ (ds : List D) (x5 x6 : Option Sl), (∀ d ∈ ds, d ∈ badM.map toD) → ∃ x5' x6', forGo (gT 2 (gConsD (gN 5) (gConsD (gN 6) (gNilD)))) bodyM ds (EZ x2 x3 x4 x5 x6 x7 x8 y9 y10 y11 y12 y13 y14 y15 y16 y17 y18) p = .nx (EZ x2 x3 x4 x5' x6' x7 x8 y9 y10 y11 y12 y13 y14 y15 y16 y17 y18) p
  | [], x5, x6, _ => ⟨x5, x6, rfl⟩
  | d :: ds, x5, x6, h => by
    obtain ⟨c, hc, rfl⟩ := List.mem_map.mp (h d (by simp))
    have B := badM_ok c hc
    obtain ⟨⟨q1, q2, q3, q4⟩, why⟩ := c
    obtain ⟨x5', x6', ih⟩ := loopM x2 x3 x4 x7 x8 y9 y10 y11 y12 y13 y14 y15 y16 y17 y18 p ds (vd (.tup [q1, q2, q3, q4])) (vd (.str why)) fun y hy => h y (by simp [hy])
    refine ⟨x5', x6', (forGo_nx (e1 := EZ x2 x3 x4 (vd (.tup [q1, q2, q3, q4])) (vd (.str why)) x7 x8 y9 y10 y11 y12 y13 y14 y15 y16 y17 y18) rfl ?_).trans ih⟩
    have ha : aCons (eBin ixD (eVar 5) (eC (.int 0))) (aCons (eBin ixD (eVar 5) (eC (.int 1))) (aCons (eBin ixD (eVar 5) (eC (.int 2))) (aCons (eBin ixD (eVar 5) (eC (.int 3))) (aNil)))) (EZ x2 x3 x4 (vd (.tup [q1, q2, q3, q4])) (vd (.str why)) x7 x8 y9 y10 y11 y12 y13 y14 y15 y16 y17 y18) p = .ok [q1, q2, q3, q4] (EZ x2 x3 x4 (vd (.tup [q1, q2, q3, q4])) (vd (.str why)) x7 x8 y9 y10 y11 y12 y13 y14 y15 y16 y17 y18) p :=
      aCons_ok (eBin_ok (eVar_v rfl) eC_ok (ixD_tup (i := 0) rfl)) (aCons_ok (eBin_ok (eVar_v rfl) eC_ok (ixD_tup (i := 1) rfl)) (aCons_ok (eBin_ok (eVar_v rfl) eC_ok (ixD_tup (i := 2) rfl)) (aCons_ok (eBin_ok (eVar_v rfl) eC_ok (ixD_tup (i := 3) rfl)) aNil_ok)))
    exact sIf_fn (tmB_ok (eBin_ok (eLam_exc (eNew_x ha (init_x B p)) B.cl) (eTup_ok (aCons_ok eC_ok (aCons_ok (eVar_v rfl) aNil_ok)) (by simp)) B.ne))
def mR : Mc := ⟨2, ["x"], [0, 1], [[0, 1], [1, 0]]⟩
def mY : Mc := ⟨2, ["y"], [0, 1], [[0, 1], [1, 0]]⟩
theorem y_ok : LsOk (["y"] : List Str) := ⟨fun x hx p => by rw [List.mem_singleton.mp hx]; kernel_rfl, by decide, by kernel_rfl⟩
theorem mR_ok : mR.Ok := ⟨by decide, ls_ok ["x"] (by simp [LS]), by decide, rfl, by decide, by decide, by decide, rfl⟩
theorem mY_ok : mY.Ok := ⟨by decide, y_ok, by decide, rfl, by decide, by decide, by decide, rfl⟩
abbrev S2 : D := .lst [e01, .lst [.int 1, .int 0]]
theorem S2_seq : SeqD (([([0, 1], false), ([1, 0], false)] : List (List Nat × Bool)).map rwD) S2 := .lst
theorem xL_seq : SeqD ((["x"] : List Str).map D.str) xL := .lst
theorem yL_seq : SeqD ((["y"] : List Str).map D.str) (.lst [.str "y"]) := .lst
theorem e_seq : SeqD (nInts [0, 1]) e01 := .lst
theorem ry_ne (p : Pen) : F_Machine_eq [mR.d, mY.d] p = .ok (.bl false) p := by kernel_rfl
theorem pure09 : ∀ ns : List Int, ns.length ≤ 63 → (∀ z ∈ ns, PySem.Builtin.Int.intBits z ≤ 1048576) → ∃ e' p', B_law (none :: some (.v .pen) :: List.replicate 19 none) (penOf ns) = .rt (.bl true) e' p' := by
  intro ns _ _
  obtain ⟨x2, y9, y10, y11, y12, y13, y14, y15, y16, y17, y18, p1, h1, h2⟩ := laps_n ((List.range 2).map fun k : Nat => .int (k : Int)) 0 (penOf ns) none none none none none none none none none none none (penOk_start ns) (by simp)
  have l2 : ((List.range 2).map fun k : Nat => D.int (k : Int)).length = 2 := rfl
  rw [l2] at h1
  obtain ⟨F, p2, f1, f2, f3⟩ := shuffled_n (badM.map toD) (by rw [List.length_map]; show 17 ≤ 100; decide) h1 (by decide)
  obtain ⟨_, bd, p3, a1, a2, a3⟩ := pick (xs := badI.map fun (c : D × Str) => c.1) f3 (by decide) (by decide) (by decide)
  obtain ⟨⟨d, r⟩, hm, rfl⟩ := List.mem_map.mp (List.mem_of_getElem? a2)
  have B := badI_ok _ hm
  dsimp only at a1 B
  obtain ⟨x5, x6, lp⟩ := loopM x2 (vd rightD) (vd (someD 17)) none none y9 y10 y11 y12 y13 y14 y15 y16 y17 y18 p2 (F.take 7) none none fun z hz => f2.mem_iff.mp (List.mem_of_mem_take hz)
  let e0 : Ev := EZ x2 (vd rightD) (vd (someD 17)) none none none none y9 y10 y11 y12 y13 y14 y15 y16 y17 y18
  let e1 : Ev := EZ x2 (vd rightD) (vd (someD 17)) x5 x6 none none y9 y10 y11 y12 y13 y14 y15 y16 y17 y18
  let e2 (x8 : Option Sl) : Ev := EZ x2 (vd rightD) (vd (someD 17)) x5 x6 (vd d) x8 y9 y10 y11 y12 y13 y14 y15 y16 y17 y18
  have s0 : sFor (iRange1 (aCons (eC (.int 2)) (aNil))) (gN 2) lapB (none :: some (.v .pen) :: List.replicate 19 none) (penOf ns) = .nx (EZ x2 none none none none none none y9 y10 y11 y12 y13 y14 y15 y16 y17 y18) p1 := sFor_ok (range_n2 2 (by decide) eC_ok) h2
  have hs7 : slD (.lst F) none (some 7) = some (.lst (F.take 7)) := by
    show some (D.lst (cutG F none (some ((7 : Nat) : Int)))) = _
    rw [cut_take]
  have s6 : (sFor (iAny (eSl (eCall F__law_shuffled (aCons (eVar 1) (aCons (eVar 4) (aNil))) []) (oNone) (oSome (eC (.int 7))))) (gT 2 (gConsD (gN 5) (gConsD (gN 6) (gNilD)))) bodyM) e0 p1 = .nx e1 p2 := by
    have c1 : eCall F__law_shuffled (aCons (eVar 1) (aCons (eVar 4) (aNil))) [] e0 p1 = .ok (.lst F) e0 p2 := eCall_ok (aCons_ok (eVar_v rfl) (aCons_ok (eVar_v rfl) aNil_ok)) f1
    have c2 : eSl (eCall F__law_shuffled (aCons (eVar 1) (aCons (eVar 4) (aNil))) []) (oNone) (oSome (eC (.int 7))) e0 p1 = .ok (.lst (F.take 7)) e0 p2 := by
      unfold eSl
      rw [c1]
      simp only [Res.bind, oNone, oSome, eC, optR, hs7]
    exact sFor_ok (iAny_l c2) lp
  have nR : eNew "Machine" I_Machine (aCons (eBin ixD (eVar 3) (eC (.int 0))) (aCons (eBin ixD (eVar 3) (eC (.int 1))) (aCons (eBin ixD (eVar 3) (eC (.int 2))) (aCons (eBin ixD (eVar 3) (eC (.int 3))) (aNil))))) [] e1 p2 = .ok mR.d e1 p2 :=
    new_ok mR_ok (L := xL) (E := e01) (S := S2) xL_seq e_seq (qs := [([0, 1], false), ([1, 0], false)]) rfl S2_seq (aCons_ok (eBin_ok (eVar_v rfl) eC_ok rfl) (aCons_ok (eBin_ok (eVar_v rfl) eC_ok rfl) (aCons_ok (eBin_ok (eVar_v rfl) eC_ok rfl) (aCons_ok (eBin_ok (eVar_v rfl) eC_ok rfl) aNil_ok))))
  have nY : eNew "Machine" I_Machine (aCons (eC (.int 2)) (aCons (eF (fLst (aCons (eC (.str "y")) (aNil)))) (aCons (eBin ixD (eVar 3) (eC (.int 2))) (aCons (eBin ixD (eVar 3) (eC (.int 3))) (aNil))))) [] e1 p2 = .ok mY.d e1 p2 :=
    new_ok mY_ok (L := .lst [.str "y"]) (E := e01) (S := S2) yL_seq e_seq (qs := [([0, 1], false), ([1, 0], false)]) rfl S2_seq (aCons_ok eC_ok (aCons_ok (eF_ok (fLst_ok (aCons_ok eC_ok aNil_ok) (by simp))) (aCons_ok (eBin_ok (eVar_v rfl) eC_ok rfl) (aCons_ok (eBin_ok (eVar_v rfl) eC_ok rfl) aNil_ok))))
  have s7 : (sIf (tmB (eCmpO cs Teq false (eNew "Machine" I_Machine (aCons (eBin ixD (eVar 3) (eC (.int 0))) (aCons (eBin ixD (eVar 3) (eC (.int 1))) (aCons (eBin ixD (eVar 3) (eC (.int 2))) (aCons (eBin ixD (eVar 3) (eC (.int 3))) (aNil))))) []) (eNew "Machine" I_Machine (aCons (eC (.int 2)) (aCons (eF (fLst (aCons (eC (.str "y")) (aNil)))) (aCons (eBin ixD (eVar 3) (eC (.int 2))) (aCons (eBin ixD (eVar 3) (eC (.int 3))) (aNil))))) []))) (sRet (eC (.bl false))) (sNext)) e1 p2 = .nx e1 p2 := sIf_fn (tmB_ok (c := false) (eCmpO_ok nR nY (cmp_of (m := mR) (neg := false) (by kernel_rfl) (ry_ne p2))))
  have s8 : (sAsg (eCall F__law_pick (aCons (eVar 1) (aCons (eF (fLst (aCons (eC .non) (aCons (eC (.int 3)) (aCons (eVar 3) (aNil)))))) (aNil))) []) (gN 7)) e1 p2 = .nx (e2 none) p3 :=
    sAsg_ok (eCall_ok (ds := [.pen, .lst (badI.map fun (c : D × Str) => c.1)]) (e1 := e1) (p1 := p2) (by kernel_rfl) a1) rfl
  let bw : D := .tup [.str "item", .str r]
  have s9 : (sOwn (fLst (aCons (eLam cl__law_complaint "ok" (eCall F_accepts (aCons (eVar 7) (aCons (eC .non) (aNil))) [])) (aNil))) 8) (e2 none) p3 = .nx (e2 (some (.own [bw]))) p3 :=
    sOwn_ok (fLst_ok (aCons_ok (eLam_exc (eCall_exc (aCons_ok (eVar_v rfl) (aCons_ok eC_ok aNil_ok)) (acc_i B .non p3)) B.cl) aNil_ok) (by show 1 ≤ 10000000; decide))
  have s10 : (sAppend 8 (eLam cl__law_complaint "ok" (eCall F_accepts_writing (aCons (eVar 7) (aCons (eC .non) (aNil))) []))) (e2 (some (.own [bw]))) p3 = .nx (e2 (some (.own [bw, bw]))) p3 :=
    sAppend_ok (xs := [bw]) rfl (eLam_exc (eCall_exc (aCons_ok (eVar_v rfl) (aCons_ok eC_ok aNil_ok)) (wri_i B .non p3)) B.cl) rfl (by show 1 ≤ 10000000; decide)
  have s11 : (sRet (eBin eqD (eVar 8) (eBin mulD3 (eF (fLst (aCons (eTup (aCons (eC (.str "item")) (aCons (eUn reprD (eLook 7)) (aNil)))) (aNil)))) (eC (.int 2))))) (e2 (some (.own [bw, bw]))) p3 = .rt (.bl true) (e2 (vd (.lst [bw, bw]))) p3 :=
    sRet_ok (eBin_ok (eVar_o rfl) (eBin_ok (eF_ok (fLst_ok (aCons_ok (eTup_ok (aCons_ok eC_ok (aCons_ok (eUn_ok (eLook_v rfl) B.rp) aNil_ok)) (by simp)) aNil_ok) (by simp))) eC_ok B.m2) B.eq)
  refine ⟨e2 (vd (.lst [bw, bw])), p3, ?_⟩
  unfold B_law
  exact (sSeq_nx s0).trans ((sSeq_nx (t1_ok x2 none none none none none none y9 y10 y11 y12 y13 y14 y15 y16 y17 y18 p1)).trans ((sSeq_nx (t2_ok x2 (vd rightD) none none none none none y9 y10 y11 y12 y13 y14 y15 y16 y17 y18 p1)).trans
    ((sSeq_nx (t3_ok x2 (vd rightD) none none none none y9 y10 y11 y12 y13 y14 y15 y16 y17 y18 p1)).trans ((sSeq_nx (t4_ok x2 (vd rightD) none none none none y9 y10 y11 y12 y13 y14 y15 y16 y17 y18 p1)).trans ((sSeq_nx (t5_ok x2 (vd rightD) none none none none y9 y10 y11 y12 y13 y14 y15 y16 y17 y18 p1)).trans
      ((sSeq_nx s6).trans ((sSeq_nx s7).trans ((sSeq_nx s8).trans ((sSeq_nx s9).trans ((sSeq_nx s10).trans s11))))))))))
end K09

open PySem PySem.W PyProof.Rows PySem.HandSPX in
set_option maxRecDepth 100000 in
set_option maxHeartbeats 0 in
theorem PySem.Challenge.cw_digitsaid_k09_whole_machines_and_numbers_holds : PySem.Challenge.rw_digitsaid_k09_whole_machines_and_numbers.Holds := by
  w_on; o_law; k_head; (case hw => w_witness2)
  k_fill
  refine Pd.walk_G (l := PySem.Challenge.rw_digitsaid_k09_whole_machines_and_numbers) (n := 63) rfl (by decide) rfl ?rec (fun w h Y => PySem.W.km_in_of Y) ?F
  case rec => decide +kernel
  case F =>
    intro w mg fa h KX G hmg
    have d_is_integer := Pd.defAt0 (x := "is_integer") (st := K09.s_is_integer) KX G (by k_is) (by k_is) (by k_is) (by k_is)
    have d_is_count := Pd.defAt1 (x := "is_count") (st := K09.s_is_count) KX G (by k_is) (by k_is) (by k_is) (by k_is) (by k_is)
    have d_is_row := Pd.defAt0 (x := "is_row") (st := K09.s_is_row) KX G (by k_is) (by k_is) (by k_is) (by k_is)
    have d_power_of := Pd.defAt0 (x := "power_of") (st := K09.s_power_of) KX G (by k_is) (by k_is) (by k_is) (by k_is)
    have d_is_base := Pd.defAt0 (x := "is_base") (st := K09.s_is_base) KX G (by k_is) (by k_is) (by k_is) (by k_is)
    have d_need_base := Pd.defAt0 (x := "need_base") (st := K09.s_need_base) KX G (by k_is) (by k_is) (by k_is) (by k_is)
    have d_digits_by := Pd.defAt0 (x := "digits_by") (st := K09.s_digits_by) KX G (by k_is) (by k_is) (by k_is) (by k_is)
    have d_number_by := Pd.defAt0 (x := "number_by") (st := K09.s_number_by) KX G (by k_is) (by k_is) (by k_is) (by k_is)
    have d_read_side_by_side := Pd.defAt0 (x := "read_side_by_side") (st := K09.s_read_side_by_side) KX G (by k_is) (by k_is) (by k_is) (by k_is)
    have d_columns_of := Pd.defAt0 (x := "columns_of") (st := K09.s_columns_of) KX G (by k_is) (by k_is) (by k_is) (by k_is)
    have d_is_name := Pd.defAt0 (x := "is_name") (st := K09.s_is_name) KX G (by k_is) (by k_is) (by k_is) (by k_is)
    have d_are_letters := Pd.defAt0 (x := "are_letters") (st := K09.s_are_letters) KX G (by k_is) (by k_is) (by k_is) (by k_is)
    have d_are_ends := Pd.defAt0 (x := "are_ends") (st := K09.s_are_ends) KX G (by k_is) (by k_is) (by k_is) (by k_is)
    have d_are_steps := Pd.defAt0 (x := "are_steps") (st := K09.s_are_steps) KX G (by k_is) (by k_is) (by k_is) (by k_is)
    have d_machine_breach := Pd.defAt0 (x := "machine_breach") (st := K09.s_machine_breach) KX G (by k_is) (by k_is) (by k_is) (by k_is)
    have d_need_machine := Pd.defAt0 (x := "need_machine") (st := K09.s_need_machine) KX G (by k_is) (by k_is) (by k_is) (by k_is)
    have d_reached_state := Pd.defAt0 (x := "reached_state") (st := K09.s_reached_state) KX G (by k_is) (by k_is) (by k_is) (by k_is)
    have d_accepts_writing := Pd.defAt0 (x := "accepts_writing") (st := K09.s_accepts_writing) KX G (by k_is) (by k_is) (by k_is) (by k_is)
    have d_are_numbers := Pd.defAt0 (x := "are_numbers") (st := K09.s_are_numbers) KX G (by k_is) (by k_is) (by k_is) (by k_is)
    have d_takes_numbers := Pd.defAt0 (x := "takes_numbers") (st := K09.s_takes_numbers) KX G (by k_is) (by k_is) (by k_is) (by k_is)
    have d_accepts := Pd.defAt0 (x := "accepts") (st := K09.s_accepts) KX G (by k_is) (by k_is) (by k_is) (by k_is)
    have d__law_pen := Pd.defAt0 (x := "_law_pen") (st := K09.s__law_pen) KX G (by k_is) (by k_is) (by k_is) (by k_is)
    have d__law_draw := Pd.defAt0 (x := "_law_draw") (st := K09.s__law_draw) KX G (by k_is) (by k_is) (by k_is) (by k_is)
    have d__law_pick := Pd.defAt0 (x := "_law_pick") (st := K09.s__law_pick) KX G (by k_is) (by k_is) (by k_is) (by k_is)
    have d__law_shuffled := Pd.defAt0 (x := "_law_shuffled") (st := K09.s__law_shuffled) KX G (by k_is) (by k_is) (by k_is) (by k_is)
    have d__law_listed := Pd.defAt0 (x := "_law_listed") (st := K09.s__law_listed) KX G (by k_is) (by k_is) (by k_is) (by k_is)
    have d__law_is_truth := Pd.defAt0 (x := "_law_is_truth") (st := K09.s__law_is_truth) KX G (by k_is) (by k_is) (by k_is) (by k_is)
    have d__law_digits := Pd.defAt0 (x := "_law_digits") (st := K09.s__law_digits) KX G (by k_is) (by k_is) (by k_is) (by k_is)
    have d__law_columns := Pd.defAt0 (x := "_law_columns") (st := K09.s__law_columns) KX G (by k_is) (by k_is) (by k_is) (by k_is)
    have d__law_led := Pd.defAt0 (x := "_law_led") (st := K09.s__law_led) KX G (by k_is) (by k_is) (by k_is) (by k_is)
    have d__law_is_taken := Pd.defAt0 (x := "_law_is_taken") (st := K09.s__law_is_taken) KX G (by k_is) (by k_is) (by k_is) (by k_is)
    have d__law_drawn := Pd.defAt0 (x := "_law_drawn") (st := K09.s__law_drawn) KX G (by k_is) (by k_is) (by k_is) (by k_is)
    have d__law_frame := Pd.defAt0 (x := "_law_frame") (st := K09.s__law_frame) KX G (by k_is) (by k_is) (by k_is) (by k_is)
    have C : K09.Cst (PySem.Challenge.rw_digitsaid_k09_whole_machines_and_numbers).prog w (Pd.Kof KX) mg := by
      constructor
      · exact Pd.mgn "len" KX G (by k_is)
      · exact Pd.mgn "tuple" KX G (by k_is)
      · exact Pd.mgn "list" KX G (by k_is)
      · exact Pd.mgn "isinstance" KX G (by k_is)
      · exact Pd.mgn "int" KX G (by k_is)
      · exact Pd.mgn "bool" KX G (by k_is)
      · exact Pd.mgn "str" KX G (by k_is)
      · exact Pd.mgn "all" KX G (by k_is)
      · exact Pd.mgn "any" KX G (by k_is)
      · exact Pd.mgn "sum" KX G (by k_is)
      · exact Pd.mgn "max" KX G (by k_is)
      · exact Pd.mgn "min" KX G (by k_is)
      · exact Pd.mgn "abs" KX G (by k_is)
      · exact Pd.mgn "range" KX G (by k_is)
      · exact Pd.mgn "enumerate" KX G (by k_is)
      · exact Pd.mgn "zip" KX G (by k_is)
      · exact Pd.mgn "repr" KX G (by k_is)
      · exact Pd.mgn "sorted" KX G (by k_is)
      · exact Pd.mgn "set" KX G (by k_is)
      · exact Pd.mgn "dict" KX G (by k_is)
      · exact Pd.mgn "super" KX G (by k_is)
      · exact Pd.mgi "MOST_BASE" 4 KX G (by k_is)
      · exact Pd.mgs "SMALL" "abcdefghijklmnopqrstuvwxyz" KX G (by k_is)
      · exact Pd.mgs "FIGURES" "0123456789" KX G (by k_is)
      · exact Pd.mgi "LONGEST" 8 KX G (by k_is)
      · have t := Pd.ktup_of (x := "WORDS") (xs := ["base", "word", "from", "to", "as", "letters", "shows", "all", "some", "endless", "not", "and", "or", "implies", "iff"]) KX G (by k_is) (by k_is) (by rfl) (by rfl) (by decide) (by exact (.cons ⟨_, rfl⟩ (.cons ⟨_, rfl⟩ (.cons ⟨_, rfl⟩ (.cons ⟨_, rfl⟩ (.cons ⟨_, rfl⟩ (.cons ⟨_, rfl⟩ (.cons ⟨_, rfl⟩ (.cons ⟨_, rfl⟩ (.cons ⟨_, rfl⟩ (.cons ⟨_, rfl⟩ (.cons ⟨_, rfl⟩ (.cons ⟨_, rfl⟩ (.cons ⟨_, rfl⟩ (.cons ⟨_, rfl⟩ (.cons ⟨_, rfl⟩ .nil))))))))))))))))
        exact t
      · exact Pd.mgi "MOST_COLUMNS" 32 KX G (by k_is)
      · exact Pd.mgi "MOST_STATES" 300 KX G (by k_is)
      · have t := Pd.xt1 (P := (PySem.Challenge.rw_digitsaid_k09_whole_machines_and_numbers).prog) (w := w) (c := "BadRow") (n := "value") KX G (by first | k_is | kernel_rfl) (by first | k_is | kernel_rfl) (by decide +kernel) (by first | k_is | kernel_rfl) (by first | k_is | kernel_rfl) (by first | k_is | kernel_rfl) (by first | k_is | kernel_rfl) (by first | k_is | kernel_rfl) (by first | k_is | kernel_rfl) (by first | k_is | kernel_rfl) (by first | k_is | kernel_rfl) (by first | k_is | kernel_rfl) (by first | k_is | kernel_rfl) (by first | k_is | kernel_rfl) (by first | k_is | kernel_rfl) (by first | k_is | kernel_rfl) (by first | k_is | kernel_rfl) (by first | k_is | kernel_rfl) (by first | k_is | kernel_rfl) (by first | k_is | kernel_rfl) (by first | k_is | kernel_rfl) (by rfl) (by decide +kernel) (by decide +kernel) (by first | k_is | kernel_rfl) rfl rfl rfl rfl rfl rfl (by decide) ⟨_, fun L => rfl⟩ (fun _ _ => rfl)
        exact t
      · have t := Pd.xt1 (P := (PySem.Challenge.rw_digitsaid_k09_whole_machines_and_numbers).prog) (w := w) (c := "BadItem") (n := "value") KX G (by first | k_is | kernel_rfl) (by first | k_is | kernel_rfl) (by decide +kernel) (by first | k_is | kernel_rfl) (by first | k_is | kernel_rfl) (by first | k_is | kernel_rfl) (by first | k_is | kernel_rfl) (by first | k_is | kernel_rfl) (by first | k_is | kernel_rfl) (by first | k_is | kernel_rfl) (by first | k_is | kernel_rfl) (by first | k_is | kernel_rfl) (by first | k_is | kernel_rfl) (by first | k_is | kernel_rfl) (by first | k_is | kernel_rfl) (by first | k_is | kernel_rfl) (by first | k_is | kernel_rfl) (by first | k_is | kernel_rfl) (by first | k_is | kernel_rfl) (by first | k_is | kernel_rfl) (by first | k_is | kernel_rfl) (by rfl) (by decide +kernel) (by decide +kernel) (by first | k_is | kernel_rfl) rfl rfl rfl rfl rfl rfl (by decide) ⟨_, fun L => rfl⟩ (fun _ _ => rfl)
        exact t
      · have t := Pd.xt1 (P := (PySem.Challenge.rw_digitsaid_k09_whole_machines_and_numbers).prog) (w := w) (c := "BadBase") (n := "value") KX G (by first | k_is | kernel_rfl) (by first | k_is | kernel_rfl) (by decide +kernel) (by first | k_is | kernel_rfl) (by first | k_is | kernel_rfl) (by first | k_is | kernel_rfl) (by first | k_is | kernel_rfl) (by first | k_is | kernel_rfl) (by first | k_is | kernel_rfl) (by first | k_is | kernel_rfl) (by first | k_is | kernel_rfl) (by first | k_is | kernel_rfl) (by first | k_is | kernel_rfl) (by first | k_is | kernel_rfl) (by first | k_is | kernel_rfl) (by first | k_is | kernel_rfl) (by first | k_is | kernel_rfl) (by first | k_is | kernel_rfl) (by first | k_is | kernel_rfl) (by first | k_is | kernel_rfl) (by first | k_is | kernel_rfl) (by rfl) (by decide +kernel) (by decide +kernel) (by first | k_is | kernel_rfl) rfl rfl rfl rfl rfl rfl (by decide) ⟨_, fun L => rfl⟩ (fun _ _ => rfl)
        exact t
      · have t := Pd.xt1 (P := (PySem.Challenge.rw_digitsaid_k09_whole_machines_and_numbers).prog) (w := w) (c := "BadMachine") (n := "why") KX G (by first | k_is | kernel_rfl) (by first | k_is | kernel_rfl) (by decide +kernel) (by first | k_is | kernel_rfl) (by first | k_is | kernel_rfl) (by first | k_is | kernel_rfl) (by first | k_is | kernel_rfl) (by first | k_is | kernel_rfl) (by first | k_is | kernel_rfl) (by first | k_is | kernel_rfl) (by first | k_is | kernel_rfl) (by first | k_is | kernel_rfl) (by first | k_is | kernel_rfl) (by first | k_is | kernel_rfl) (by first | k_is | kernel_rfl) (by first | k_is | kernel_rfl) (by first | k_is | kernel_rfl) (by first | k_is | kernel_rfl) (by first | k_is | kernel_rfl) (by first | k_is | kernel_rfl) (by first | k_is | kernel_rfl) (by rfl) (by decide +kernel) (by decide +kernel) (by first | k_is | kernel_rfl) rfl rfl rfl rfl rfl rfl (by decide) ⟨_, fun L => rfl⟩ (fun _ _ => rfl)
        exact t
      · have t := Pd.xt1 (P := (PySem.Challenge.rw_digitsaid_k09_whole_machines_and_numbers).prog) (w := w) (c := "BadNumbers") (n := "value") KX G (by first | k_is | kernel_rfl) (by first | k_is | kernel_rfl) (by decide +kernel) (by first | k_is | kernel_rfl) (by first | k_is | kernel_rfl) (by first | k_is | kernel_rfl) (by first | k_is | kernel_rfl) (by first | k_is | kernel_rfl) (by first | k_is | kernel_rfl) (by first | k_is | kernel_rfl) (by first | k_is | kernel_rfl) (by first | k_is | kernel_rfl) (by first | k_is | kernel_rfl) (by first | k_is | kernel_rfl) (by first | k_is | kernel_rfl) (by first | k_is | kernel_rfl) (by first | k_is | kernel_rfl) (by first | k_is | kernel_rfl) (by first | k_is | kernel_rfl) (by first | k_is | kernel_rfl) (by first | k_is | kernel_rfl) (by rfl) (by decide +kernel) (by decide +kernel) (by first | k_is | kernel_rfl) rfl rfl rfl rfl rfl rfl (by decide) ⟨_, fun L => rfl⟩ (fun _ _ => rfl)
        exact t
      · have t := Pd.xt1 (P := (PySem.Challenge.rw_digitsaid_k09_whole_machines_and_numbers).prog) (w := w) (c := "BadWriting") (n := "value") KX G (by first | k_is | kernel_rfl) (by first | k_is | kernel_rfl) (by decide +kernel) (by first | k_is | kernel_rfl) (by first | k_is | kernel_rfl) (by first | k_is | kernel_rfl) (by first | k_is | kernel_rfl) (by first | k_is | kernel_rfl) (by first | k_is | kernel_rfl) (by first | k_is | kernel_rfl) (by first | k_is | kernel_rfl) (by first | k_is | kernel_rfl) (by first | k_is | kernel_rfl) (by first | k_is | kernel_rfl) (by first | k_is | kernel_rfl) (by first | k_is | kernel_rfl) (by first | k_is | kernel_rfl) (by first | k_is | kernel_rfl) (by first | k_is | kernel_rfl) (by first | k_is | kernel_rfl) (by first | k_is | kernel_rfl) (by rfl) (by decide +kernel) (by decide +kernel) (by first | k_is | kernel_rfl) rfl rfl rfl rfl rfl rfl (by decide) ⟨_, fun L => rfl⟩ (fun _ _ => rfl)
        exact t
      · have t := Pd.cts_of (as := [("Machine", ["base", "letters", "ends", "steps", "many"], _)]) KX G rfl ⟨⟨(by k_is), (by first | k_is | kernel_rfl), (by first | k_is | kernel_rfl), (by first | k_is | kernel_rfl), (by first | k_is | kernel_rfl), ⟨(by first | k_is | kernel_rfl), (by first | k_is | kernel_rfl), (by first | k_is | kernel_rfl), (by first | k_is | kernel_rfl), (by first | k_is | kernel_rfl), trivial⟩, (by first | k_is | kernel_rfl), (by first | k_is | kernel_rfl), ⟨⟨(by first | k_is | kernel_rfl), (by first | k_is | kernel_rfl)⟩, ⟨(by first | k_is | kernel_rfl), (by first | k_is | kernel_rfl)⟩, ⟨(by first | k_is | kernel_rfl), (by first | k_is | kernel_rfl)⟩, ⟨(by first | k_is | kernel_rfl), (by first | k_is | kernel_rfl)⟩, ⟨(by first | k_is | kernel_rfl), (by first | k_is | kernel_rfl)⟩, ⟨(by first | k_is | kernel_rfl), (by first | k_is | kernel_rfl)⟩, trivial⟩⟩, trivial⟩ ⟨⟨⟨(by first | k_is | kernel_rfl), (by first | k_is | kernel_rfl)⟩, trivial⟩, trivial⟩ (by first | k_is | kernel_rfl) (by first | k_is | kernel_rfl)
        exact t
      · have t := Pd.em_of (a := "BadRow") (b := "BadItem") (r := false) KX G (by k_is) (by k_is) (by first | k_is | kernel_rfl)
        exact t
      · have t := Pd.em_of (a := "BadItem") (b := "BadItem") (r := true) KX G (by k_is) (by k_is) (by first | k_is | kernel_rfl)
        exact t
      · have t := Pd.em_of (a := "BadBase") (b := "BadItem") (r := false) KX G (by k_is) (by k_is) (by first | k_is | kernel_rfl)
        exact t
      · have t := Pd.em_of (a := "BadMachine") (b := "BadItem") (r := false) KX G (by k_is) (by k_is) (by first | k_is | kernel_rfl)
        exact t
      · have t := Pd.em_of (a := "BadNumbers") (b := "BadItem") (r := false) KX G (by k_is) (by k_is) (by first | k_is | kernel_rfl)
        exact t
      · have t := Pd.em_of (a := "BadWriting") (b := "BadItem") (r := false) KX G (by k_is) (by k_is) (by first | k_is | kernel_rfl)
        exact t
      · have t := Pd.em_of (a := "BadRow") (b := "BadMachine") (r := false) KX G (by k_is) (by k_is) (by first | k_is | kernel_rfl)
        exact t
      · have t := Pd.em_of (a := "BadItem") (b := "BadMachine") (r := false) KX G (by k_is) (by k_is) (by first | k_is | kernel_rfl)
        exact t
      · have t := Pd.em_of (a := "BadBase") (b := "BadMachine") (r := false) KX G (by k_is) (by k_is) (by first | k_is | kernel_rfl)
        exact t
      · have t := Pd.em_of (a := "BadMachine") (b := "BadMachine") (r := true) KX G (by k_is) (by k_is) (by first | k_is | kernel_rfl)
        exact t
      · have t := Pd.em_of (a := "BadNumbers") (b := "BadMachine") (r := false) KX G (by k_is) (by k_is) (by first | k_is | kernel_rfl)
        exact t
      · have t := Pd.em_of (a := "BadWriting") (b := "BadMachine") (r := false) KX G (by k_is) (by k_is) (by first | k_is | kernel_rfl)
        exact t
      · have t := Pd.em_of (a := "BadRow") (b := "BadNumbers") (r := false) KX G (by k_is) (by k_is) (by first | k_is | kernel_rfl)
        exact t
      · have t := Pd.em_of (a := "BadItem") (b := "BadNumbers") (r := false) KX G (by k_is) (by k_is) (by first | k_is | kernel_rfl)
        exact t
      · have t := Pd.em_of (a := "BadBase") (b := "BadNumbers") (r := false) KX G (by k_is) (by k_is) (by first | k_is | kernel_rfl)
        exact t
      · have t := Pd.em_of (a := "BadMachine") (b := "BadNumbers") (r := false) KX G (by k_is) (by k_is) (by first | k_is | kernel_rfl)
        exact t
      · have t := Pd.em_of (a := "BadNumbers") (b := "BadNumbers") (r := true) KX G (by k_is) (by k_is) (by first | k_is | kernel_rfl)
        exact t
      · have t := Pd.em_of (a := "BadWriting") (b := "BadNumbers") (r := false) KX G (by k_is) (by k_is) (by first | k_is | kernel_rfl)
        exact t
      · have t := Pd.em_of (a := "BadRow") (b := "BadWriting") (r := false) KX G (by k_is) (by k_is) (by first | k_is | kernel_rfl)
        exact t
      · have t := Pd.em_of (a := "BadItem") (b := "BadWriting") (r := false) KX G (by k_is) (by k_is) (by first | k_is | kernel_rfl)
        exact t
      · have t := Pd.em_of (a := "BadBase") (b := "BadWriting") (r := false) KX G (by k_is) (by k_is) (by first | k_is | kernel_rfl)
        exact t
      · have t := Pd.em_of (a := "BadMachine") (b := "BadWriting") (r := false) KX G (by k_is) (by k_is) (by first | k_is | kernel_rfl)
        exact t
      · have t := Pd.em_of (a := "BadNumbers") (b := "BadWriting") (r := false) KX G (by k_is) (by k_is) (by first | k_is | kernel_rfl)
        exact t
      · have t := Pd.em_of (a := "BadWriting") (b := "BadWriting") (r := true) KX G (by k_is) (by k_is) (by first | k_is | kernel_rfl)
        exact t
    have o_is_integer := fun base => K09.own_is_integer (base := base) C d_is_integer 
    have o_is_row := fun base => K09.own_is_row (base := base) C d_is_row 
    have o_power_of := fun base => K09.own_power_of (base := base) C d_power_of 
    have o_is_name := fun base => K09.own_is_name (base := base) C d_is_name 
    have o_are_letters := fun base => K09.own_are_letters (base := base) C d_are_letters (o_is_name base) (o_is_row base) (o_power_of base)
    have o_are_ends := fun base => K09.own_are_ends (base := base) C d_are_ends (o_is_row base) (o_is_integer base)
    have o_are_steps := fun base => K09.own_are_steps (base := base) C d_are_steps (o_is_row base) (o_is_integer base)
    have o_machine_breach := fun base => K09.own_machine_breach (base := base) C d_machine_breach (o_is_integer base) (o_are_letters base) (o_are_ends base) (o_are_steps base) (o_power_of base)
    have d_Machine_init := Pd.methAt0 (c := "Machine") (m := "__init__") (q := "Machine.__init__") (st := K09.s_Machine_init) KX G (by k_is) (by k_is) (by k_is) (by k_is) (by k_is) (by k_is)
    have d_Machine_eq := Pd.methAt0 (c := "Machine") (m := "__eq__") (q := "Machine.__eq__") (st := K09.s_Machine_eq) KX G (by k_is) (by k_is) (by k_is) (by k_is) (by k_is) (by k_is)
    have a_Machine := Pd.mkAt (c := "Machine") KX G (by k_is) (by k_is) (by k_is)
    have o_mk_Machine := fun base => K09.mk_Machine (base := base) C a_Machine d_Machine_init (o_machine_breach base)
    have q_Machine := Pd.eqAt (c := "Machine") KX G (by k_is) (by k_is) (by k_is)
    have o_eq := fun base => K09.eq_all (K09.eq_Machine (base := base) C q_Machine d_Machine_eq)
    have o_is_count := fun base => K09.own_is_count (base := base) C d_is_count (o_is_integer base)
    have o_is_base := fun base => K09.own_is_base (base := base) C d_is_base (o_is_integer base)
    have o_need_base := fun base => K09.own_need_base (base := base) C d_need_base (o_is_base base)
    have o_digits_by := fun base => K09.own_digits_by (base := base) C d_digits_by 
    have o_number_by := fun base => K09.own_number_by (base := base) C d_number_by 
    have o_read_side_by_side := fun base => K09.own_read_side_by_side (base := base) C d_read_side_by_side (o_digits_by base) (o_number_by base)
    have o_columns_of := fun base => K09.own_columns_of (base := base) C d_columns_of (o_need_base base) (o_is_count base) (o_is_row base) (o_read_side_by_side base)
    have o_need_machine := fun base => K09.own_need_machine (base := base) C d_need_machine 
    have o_reached_state := fun base => K09.own_reached_state (base := base) C d_reached_state 
    have o_accepts_writing := fun base => K09.own_accepts_writing (base := base) C d_accepts_writing (o_need_machine base) (o_power_of base) (o_is_integer base) (o_is_row base) (o_reached_state base)
    have o_are_numbers := fun base => K09.own_are_numbers (base := base) C d_are_numbers (o_is_integer base) (o_is_row base)
    have o_takes_numbers := fun base => K09.own_takes_numbers (base := base) C d_takes_numbers (o_reached_state base) (o_columns_of base)
    have o_accepts := fun base => K09.own_accepts (base := base) C d_accepts (o_need_machine base) (o_are_numbers base) (o_takes_numbers base)
    have o__law_draw := fun base => K09.own__law_draw (base := base) C d__law_draw 
    have o__law_pick := fun base => K09.own__law_pick (base := base) C d__law_pick (o__law_draw base)
    have o__law_shuffled := fun base => K09.own__law_shuffled (base := base) C d__law_shuffled (o__law_draw base)
    have o__law_listed := fun base => K09.own__law_listed (base := base) C d__law_listed (o__law_draw base)
    have o__law_is_truth := fun base => K09.own__law_is_truth (base := base) C d__law_is_truth 
    have o__law_digits := fun base => K09.own__law_digits (base := base) C d__law_digits 
    have o__law_columns := fun base => K09.own__law_columns (base := base) C d__law_columns (o__law_digits base)
    have o__law_led := fun base => K09.own__law_led (base := base) C d__law_led 
    have o__law_is_taken := fun base => K09.own__law_is_taken (base := base) C d__law_is_taken (o__law_led base) (o__law_columns base)
    have o__law_drawn := fun base => K09.own__law_drawn (base := base) C d__law_drawn (o__law_draw base)
    have o__law_frame := fun base => K09.own__law_frame (base := base) C d__law_frame (o__law_draw base) (o__law_pick base)
    obtain ⟨fp, fdp, FP, mP⟩ := d__law_pen
    have t__law_complaint := K09.tell_at__law_complaint KX G (by k_is) (by k_is) (by k_is) (by k_is)
    exact K09.fin C KX G hmg o__law_frame o__law_drawn o_mk_Machine o__law_listed o_eq o__law_draw o__law_pick o__law_is_taken o__law_is_truth o_accepts o__law_columns o_accepts_writing o__law_shuffled FP mP t__law_complaint (by k_is) (by k_is) (by k_is) (by k_is) (by rfl) (by rfl) (by rfl) (by rfl) (by rfl) (by rfl) (by decide) (by first | k_is | kernel_rfl) K09.pure09

